import PyProof.Rows.All
import Wide.All
import OpenK.AllK
import Wide.FinOn
import HandS.ForMost
import HandS.Gcd
import HandS.Wide
import HandS.Style
import HandS.IsInst
import HandS.Defaults
import PySem.Challenge.RW_allunmoved_k02_fractions_in_lowest_terms
set_option Elab.async false
set_option linter.all false
set_option maxRecDepth 100000
set_option maxHeartbeats 4000000
set_option exponentiation.threshold 20000
namespace Al
open PySem PySem.Spec PyProof.Rows L2

/-! ### rules -/
def CDivZ (_ j : Int) : Prop := j ≠ 0 ∧ j.natAbs < 2 ^ 8000
section
variable {X : Cx}
theorem op_fdivZ : OpR X (binaryOp .FloorDiv) (rI CDivZ fun i j => .int (i.fdiv j)) := opI fun i j _ _ _ _ _ hc q =>
  floordiv_int hc.1 q (.inl (PyProof.noPylong_of_log2 (Nat.lt_of_lt_of_le (PySem.Flt.log2_lt_of (k := 8000) (by decide) hc.2) (by decide))))
theorem op_mulZ : OpR X (binaryOp .Mult) (rI IntMulOk fun i j => .int (i * j)) := opI fun _ _ _ _ _ _ _ hc q => mul_int q hc
end
theorem divC {n : Int} (h : 0 < n) (h1 : n.natAbs < 2 ^ 3000) (i : Int) : CDivZ i n := ⟨by omega, Nat.lt_of_lt_of_le h1 (Nat.pow_le_pow_right (by decide) (by decide))⟩
theorem powC {i j : Int} (h1 : 0 ≤ j) (h2 : j ≤ 1000000) (h3 : i.natAbs < 2 ^ 64) : CPow i j := ⟨h1, h2, h3⟩
theorem mulC {i j : Int} (h : (-(2 ^ 64) < j ∧ j < 2 ^ 64)) : IntMulOk i j := CMul.ok (.inr h)
theorem mulC' {i j : Int} (h : (-(2 ^ 64) < i ∧ i < 2 ^ 64)) : IntMulOk i j := CMul.ok (.inl h)
theorem mulW {i j : Int} (a b : Nat) (ha : i.natAbs < 2 ^ a) (hb : j.natAbs < 2 ^ b) (h0 : 0 < a) (h1 : 0 < b) (h : a + b ≤ 1000000) : IntMulOk i j := (wide_mul ha hb h0 h1 h).ok

theorem bm {i j : Int} (h : i.natAbs < 2 ^ 3000) (h' : j.natAbs < 2 ^ 3000) : (i * j).natAbs < 2 ^ 6000 := wide_lt h h'
theorem bm8 {i j : Int} (h : i.natAbs < 2 ^ 3000) (h' : j.natAbs < 2 ^ 3000) : (i * j).natAbs < 2 ^ 8000 := Nat.lt_of_lt_of_le (bm h h') (Nat.pow_le_pow_right (by decide) (by decide))
theorem bs8 {i j : Int} (h : i.natAbs < 2 ^ 6000) (h' : j.natAbs < 2 ^ 6000) : (i + j).natAbs < 2 ^ 8000 := by
  have : (2 : Nat) ^ 8000 = 2 ^ 6000 * 2 ^ 2000 := by rw [← Nat.pow_add]
  have h2 : 2 ≤ 2 ^ 2000 := by decide +kernel
  have := Nat.mul_le_mul_left (2 ^ 6000) h2
  omega
theorem mulB {i j : Int} (h : i.natAbs < 2 ^ 3000) (h' : j.natAbs < 2 ^ 3000) : IntMulOk i j := mulW 3000 3000 h h' (by decide) (by decide) (by decide)
section
variable {X : Cx} {CX : CXT} {k : Nat} {f : Addr} {fd : FuncData} {ps ks : List Str} {sp : Sp} {E : XK} {x : Str} {p pos : Pos} {kws : List Keyword} {tk : TA} {g : List Value → List Value → List Value} {gV : List V → List V → List V}
/-- f(k = v, ..) -/
theorem pe_callK0 (F : FnOk X.prog X.w X.K X.mg X.base CX k f fd ps sp) (hr : Room k X.A) (hg : Gl X x) (hm : X.mg x = some (.ref f)) (hk : PySem.W.keepIn X.K (.ref f) = true) (hb : KBinds X.K fd ps ks g gV) (hx : Passes CX X E) (hkw : PK X kws tk)
    (hall : (backToKw pos (keywordEach kws X.env)).all (·.1.isSome) = true := by rfl) (hks : (backToKw pos (keywordEach kws X.env)).filterMap (·.1) = ks := by rfl) (hdb : (x == ("__debug__" : Str)) = false := by decide)
    (hpl : ((backTo pos (starEach [] X.env)).any (·.1) || (backToKw pos (keywordEach kws X.env)).any (·.1.isNone)) = false := by rfl) :
    PE X (.Call (.Name x p) [] kws pos) (tCallK sp gV E tNil tk) := by
  refine ⟨fun pins s σ H Q I h => ?_⟩
  refine wpAny_Call_Name_kw (ld_glob I hg hm ?_ hdb)
  refine PySem.W.callWith_KW0 (h₀ := X.base) I.ok.mod.kin hk hall ?_ hpl
  refine thn (hkw.run pos pins s σ H _ I h) fun ws s2 ⟨zs, H2, I2, rz, q2⟩ => ⟨I2.kIn, ?_⟩
  rw [hks]
  exact run_fnk (us := []) (vs := []) F hr hb hx I2 .nil rz q2
end

/-! ### heaps -/
/-- a new object came -/
def Nw (p : Addr) (o : HO) (H H' : Hp) : Prop := H p = none ∧ H' = upd H p o
/-- an object was changed -/
def Mu (p : Addr) (o : HO) (H H' : Hp) : Prop := H' = upd H p o
/-- all tuples stay -/
def TK (H H' : Hp) : Prop := ∀ a xs, H a = some (.tup xs) → H' a = some (.tup xs)
/-- all stays but what stands at a, b -/
def But (a b : Addr) (H H' : Hp) : Prop := ∀ x o, x ≠ a → x ≠ b → H x = some o → H' x = some o
section
variable {K : PySem.W.Frag} {H H' H1 H2 : Hp} {p a b x y t : Addr} {o u : HO} {xs ys : List V} {v w : V}
theorem Nw.at (h : Nw p o H H') : H' p = some o := by rw [h.2]; exact upd_same
theorem Nw.same (h : Nw p o H H') : Same H H' := fun b u e => by rw [h.2, upd_ne (ne_of_none e h.1)]; exact e
theorem Nw.ne (h : Nw p o H H') (e : H x = some u) : x ≠ p := ne_of_none e h.1
theorem Mu.at (h : Mu p o H H') : H' p = some o := by rw [show H' = upd H p o from h]; exact upd_same
theorem Mu.ne (h : Mu p o H H') (e : x ≠ p) : H' x = H x := by rw [show H' = upd H p o from h]; exact upd_ne e
theorem Same.at (h : H a = some o) (k : Same H H') : H' a = some o := k _ _ h
theorem Same.from (k : Same H H') (h : H a = some o) : H' a = some o := k _ _ h
theorem TK.rfl' (H : Hp) : TK H H := fun _ _ e => e
theorem TK.trans (h : TK H H1) (h' : TK H1 H2) : TK H H2 := fun a xs e => h' a xs (h a xs e)
theorem TK.of (h : Same H H') : TK H H' := fun a xs e => h a _ e
theorem Nw.tk (h : Nw p o H H') : TK H H' := TK.of h.same
theorem Mu.tk (h : Mu p o H H') (e : H p = some (.lst xs)) : TK H H' := fun a ys q => by
  rw [h.ne (ne_of q e (by intro z; cases z))]; exact q
theorem But.of (h : Same H H') : But a b H H' := fun x o _ _ e => h x o e
theorem But.trans (h : But a b H H1) (h' : But a b H1 H2) : But a b H H2 := fun x o n m e => h' x o n m (h x o n m e)
theorem But.tk (h : But a b H H') (ha : H a = some (.lst xs)) (hb : H b = some (.lst ys)) : TK H H' := fun x zs e =>
  h x _ (ne_of e ha (by intro z; cases z)) (ne_of e hb (by intro z; cases z)) e
/-- a tuple that is read: tracked, or written -/
def Tp (K : PySem.W.Frag) (H : Hp) (a : Addr) (xs : List V) : Prop :=
  H a = some (.tup xs) ∨ ∃ (o : Obj) (its : Array Value) (n : Nat), K.lookup a = some o ∧ o.cls = .type "tuple" ∧ o.data = .seq its n ∧ its.size ≤ sizeLine ∧ Vals xs its.toList
theorem Tp.sq (h : Tp K H a xs) : SqT K H a xs := by
  rcases h with h | h
  · exact .inl (.inl h)
  · exact .inr h
theorem Tp.keep (h : Tp K H a xs) (k : TK H H') : Tp K H' a xs := by
  rcases h with h | h
  · exact .inl (k _ _ h)
  · exact .inr h
theorem Tp.from (k : TK H H') (h : Tp K H a xs) : Tp K H' a xs := h.keep k
theorem Tp.new (h : Nw p (.tup xs) H H') : Tp K H' p xs := .inl h.at
end

/-! ### the same data, seen twice -/
def Sc (v w : V) : Prop := v = w ∧ ((∃ i, v = .int i) ∨ (∃ b, v = .bl b) ∨ v = .non ∨ ∃ s, v = .str s)
def Sm (K : PySem.W.Frag) (H : Hp) : Nat → V → V → Prop
  | 0, v, w => Sc v w
  | n + 1, v, w => Sc v w ∨ ∃ a b xs ys, v = .ref a ∧ w = .ref b ∧ Tp K H a xs ∧ Tp K H b ys ∧ xs.length = ys.length ∧ xs.length ≤ 100000 ∧ ∀ (i : Nat) x y, xs[i]? = some x → ys[i]? = some y → Sm K H n x y
section
variable {K : PySem.W.Frag} {H H' : Hp}
theorem Sm.keep (k : TK H H') : ∀ {n : Nat} {v w : V}, Sm K H n v w → Sm K H' n v w
  | 0, _, _, h => h
  | n + 1, _, _, h => by
    rcases h with h | ⟨a, b, xs, ys, e1, e2, h1, h2, e, l, h⟩
    · exact .inl h
    · exact .inr ⟨a, b, xs, ys, e1, e2, h1.keep k, h2.keep k, e, l, fun i x y p q => Sm.keep k (h i x y p q)⟩
theorem Sm.up : ∀ {n : Nat} {v w : V}, Sm K H n v w → Sm K H (n + 1) v w
  | 0, _, _, h => .inl h
  | n + 1, _, _, h => by
    rcases h with h | ⟨a, b, xs, ys, e1, e2, h1, h2, e, l, h⟩
    · exact .inl h
    · exact .inr ⟨a, b, xs, ys, e1, e2, h1, h2, e, l, fun i x y p q => Sm.up (h i x y p q)⟩
theorem Sm.int {n : Nat} {i j : Int} (e : i = j) : Sm K H n (.int i) (.int j) := by
  subst e
  cases n with
  | zero => exact ⟨rfl, .inl ⟨_, rfl⟩⟩
  | succ n => exact .inl ⟨rfl, .inl ⟨_, rfl⟩⟩
end
/-- a pair of ints -/
def Fr (K : PySem.W.Frag) (H : Hp) (v : V) (q : Int × Int) : Prop := ∃ t, v = .ref t ∧ Tp K H t [.int q.1, .int q.2]
section
variable {K : PySem.W.Frag} {H H' : Hp} {v w : V} {q r : Int × Int}
theorem Fr.keep (h : Fr K H v q) (k : TK H H') : Fr K H' v q := by
  obtain ⟨t, e, h⟩ := h
  exact ⟨t, e, h.keep k⟩
theorem Fr.from (k : TK H H') (h : Fr K H v q) : Fr K H' v q := h.keep k
theorem Fr.sm {n : Nat} (h : Fr K H v q) (h' : Fr K H w r) (e : q = r) : Sm K H (n + 1) v w := by
  subst e
  obtain ⟨t, rfl, h⟩ := h
  obtain ⟨s, rfl, h'⟩ := h'
  refine .inr ⟨t, s, _, _, rfl, rfl, h, h', rfl, (by decide : 2 ≤ 100000), fun i x y a b => ?_⟩
  match i with
  | 0 => cases a; cases b; exact Sm.int rfl
  | 1 => cases a; cases b; exact Sm.int rfl
  | i + 2 => simp at a
end

/-! ### readings -/
section
variable {K : PySem.W.Frag} {σ : L2.St} {H : Hp} {Q : VK} {ta tb tc te : TE} {v x y : V} {r : R2} {g : Int → Int → V} {i j : Int} {C : Int → Int → Prop} {t tr : TA} {QA : List V → Hp → Prop} {QT : Bool → Hp → Prop} {tt tu : TT}
  {D : Ends} {s1 s2 : TS} {p : Addr} {xs : List V}
theorem r_var {n : Nat} (h : σ[n]? = some (some v)) (q : Q v H) : tVar n σ H Q := ⟨v, h, q⟩
theorem r_c (q : Q v H) : tC v σ H Q := q
theorem r_op (h : ta σ H fun x H1 => tb σ H1 fun y H2 => r x y H2 Q) : tOp r ta tb σ H Q := h
theorem r_un {r : V → Hp → VK → Prop} (h : ta σ H fun x H1 => r x H1 Q) : tUn r ta σ H Q := h
theorem r_I0 (q : Q (g i j) H) : rI0 g (.int i) (.int j) H Q := ⟨i, j, rfl, rfl, q⟩
theorem r_I (q : Q (g i j) H) (c : C i j) : rI C g (.int i) (.int j) H Q := ⟨i, j, rfl, rfl, c, q⟩
theorem r_U {g : Int → V} (q : Q (g i) H) : rU g (.int i) H Q := ⟨i, rfl, q⟩
theorem r_nil (q : QA [] H) : tNil σ H QA := q
theorem r_cons (h : ta σ H fun x H1 => tr σ H1 fun xs H2 => QA (x :: xs) H2) : tCons ta tr σ H QA := h
theorem r_ixL (h : SqL K H p xs) (e : atI xs i = some v) (q : Q v H) : rIx K (.ref p) (.int i) H Q := .inl ⟨p, xs, i, v, rfl, rfl, h, e, q⟩
theorem r_ixT (h : SqT K H p xs) (e : atI xs i = some v) (q : Q v H) : rIx K (.ref p) (.int i) H Q := .inr (.inl ⟨p, xs, i, v, rfl, rfl, h, e, q⟩)
/-- what is asked of a new object -/
def rNew (l : Nat) (o : HO) (H : Hp) (Q : VK) : Prop := l ≤ sizeLine ∧ ∀ p, H p = none → Q (.ref p) (upd H p o)
theorem r_new {l : Nat} {o : HO} (h : l ≤ 1000000) (q : ∀ p H2, Nw p o H H2 → Q (.ref p) H2) : rNew l o H Q := ⟨Nat.le_trans h (by decide), fun p np => q p _ ⟨np, rfl⟩⟩
theorem r_tup (h : t σ H fun xs H1 => rNew xs.length (.tup xs) H1 Q) : tTup t σ H Q := h
theorem r_lst (h : t σ H fun xs H1 => rNew xs.length (.lst xs) H1 Q) : tLst t σ H Q := h
theorem r_eqI (q : Q (.bl (decide (i = j))) H) : rEq (.int i) (.int j) H Q := ⟨rfl, by rw [dec_int, Bool.beq_eq_decide_eq]; exact q⟩
theorem r_neI (q : Q (.bl (!decide (i = j))) H) : rNe (.int i) (.int j) H Q := ⟨rfl, by rw [dec_int, Bool.beq_eq_decide_eq]; exact q⟩
theorem r_eq (s : scal x y = true) (q : Q (.bl (decide (x = y))) H) : rEq x y H Q := ⟨s, q⟩
theorem r_ne (s : scal x y = true) (q : Q (.bl (!decide (x = y))) H) : rNe x y H Q := ⟨s, q⟩
/-- what a test asks of its value -/
def rTr (x : V) (H : Hp) (QT : Bool → Hp → Prop) : Prop := ∃ k, x = .bl k ∧ QT k H
theorem r_tr {k : Bool} (q : QT k H) : rTr (.bl k) H QT := ⟨k, rfl, q⟩
theorem r_test (h : ta σ H fun x H1 => rTr x H1 QT) : tTest ta σ H QT := h
theorem r_tB (h : ta σ H fun x H1 => rTr x H1 QT) : tB ta σ H QT := h
theorem r_and (h : tt σ H fun c H1 => if c = true then tu σ H1 QT else QT false H1) : tAnd tt tu σ H QT := h
theorem r_or (h : tt σ H fun c H1 => if c = true then QT true H1 else tu σ H1 QT) : tOr tt tu σ H QT := h
theorem r_not (h : tt σ H fun c H1 => QT (!c) H1) : tNot tt σ H QT := h
theorem r_ifE (h : tt σ H fun c H1 => if c = true then ta σ H1 Q else tb σ H1 Q) : tIf tt ta tb σ H Q := h
theorem r_CB {r : List V → Hp → VK → Prop} (h : t σ H fun vs H1 => r vs H1 Q) : tCB r t σ H Q := h
theorem r_call {sp : Sp} {E : XK} (h : t σ H fun vs H1 => sp (vs ++ []) H1 Q E) : tCall sp [] E t σ H Q := h
theorem r_gcd (q : Q (.int ((Nat.gcd i.natAbs j.natAbs : Nat) : Int)) H) : rGcd [.int i, .int j] H Q := ⟨i, j, rfl, q⟩
-- statements
theorem r_seq (h : s1 { D with nx := s2 D } σ H) : tSeq s1 s2 D σ H := h
theorem r_set {n : Nat} (h : te σ H fun x H1 => D.nx (σ.set n (some x)) H1) : tAsg te (gName n) D σ H := h
theorem r_asg {G : TG} (h : te σ H fun x H1 => G x σ H1 D.nx) : tAsg te G D σ H := h
theorem r_ret (h : te σ H D.rt) : tRet te D σ H := h
theorem r_if (h : tt σ H fun b H1 => if b = true then s1 D σ H1 else s2 D σ H1) : tIfS tt s1 s2 D σ H := h
theorem r_drop (h : te σ H fun _ H1 => D.nx σ H1) : tDrop te D σ H := h
theorem r_next (h : D.nx σ H) : tNext D σ H := h
def rPar (vs : List V) (H : Hp) (k : V → V → Hp → Prop) : Prop := ∃ v w, vs = [v, w] ∧ k v w H
theorem r_par {n m : Nat} (h : t σ H fun vs H1 => rPar vs H1 fun v w H2 => D.nx ((σ.set n (some v)).set m (some w)) H2) : tPar n m t D σ H := h
theorem r_two {v w : V} {R : V → V → Hp → Prop} (h : R v w H) : rPar [v, w] H R := ⟨v, w, rfl, h⟩
theorem r_callK {sp : Sp} {E : XK} {gV : List V → List V → List V} {tk : TA} (h : t σ H fun vs H1 => tk σ H1 fun zs H2 => sp (gV vs zs) H2 Q E) : tCallK sp gV E t tk σ H Q := h
theorem r_dec {p : Prop} [Decidable p] {A B : Prop} (h1 : p → A) (h2 : ¬ p → B) : if decide p = true then A else B := ite2 (fun h => h1 (of_decide_eq_true h)) (fun h => h2 fun z => h (decide_eq_true z))
theorem r_ndec {p : Prop} [Decidable p] {A B : Prop} (h1 : ¬ p → A) (h2 : p → B) : if (!decide p) = true then A else B := by
  by_cases h : p
  · rw [decide_eq_true h]; exact iteF (h2 h)
  · rw [decide_eq_false h]; exact iteT (h1 h)
theorem r_yes {b : Bool} {A B : Prop} (h : b = true) (q : A) : if b = true then A else B := by rw [if_pos h]; exact q
theorem r_no {b : Bool} {A B : Prop} (h : b = false) (q : B) : if b = true then A else B := by rw [h]; exact iteF q
end

/-! ### loops -/
/-- a list or a tuple -/
def Sq (K : PySem.W.Frag) (H : Hp) (a : Addr) (xs : List V) : Prop := SqL K H a xs ∨ SqT K H a xs
theorem Sq.keep {K : PySem.W.Frag} {H H' : Hp} {a : Addr} {xs : List V} (h : Sq K H a xs) (k : Same H H') : Sq K H' a xs := by
  rcases h with h | (h | ⟨o, h⟩) | h
  · exact .inl (k.seq h)
  · exact .inr (.inl (.inl (k _ _ h)))
  · exact .inr (.inl (.inr ⟨o, k _ _ h⟩))
  · exact .inr (.inr h)
def iSeqV (K : PySem.W.Frag) (n : Nat) : TI := fun σ H R => iList K (tVar n) σ H R ∨ iTup K (tVar n) σ H R
theorem pi_seqV {X : Cx} {tg l : Expr} {n : Nat} (hl : PE X l (tVar n)) : PI X tg l (iSeqV X.K n) :=
  ⟨fun pins s σ H R I h => h.elim ((pi_list hl).run pins s σ H R I) ((pi_tup hl).run pins s σ H R I)⟩
def rFor (g : TG) (tb : TS) (D : Ends) (σ0 : L2.St) (J : It) (H1 : Hp) : Prop := ∃ W : Nat → Nat → L2.St → Hp → Prop, (∃ m, W 0 m σ0 H1) ∧ ∀ i m σ H, W i m σ H →
  (J.stop i H ∧ D.nx σ H) ∨ (J.go i H ∧ ∃ N : L2.St → Hp → Prop, (∀ σ' H', N σ' H' → ∃ m', m' < m ∧ W (i + 1) m' σ' H') ∧ ∀ x H', J.yld i H x H' → g x σ H' fun σ2 H2 => tb { D with nx := N, ct := N, bk := D.nx } σ2 H2)
def rForL (K : PySem.W.Frag) (g : TG) (tb : TS) (D : Ends) (σ : L2.St) (x : V) (H : Hp) : Prop := ∃ a, x = .ref a ∧ (∃ xs, SqL K H a xs) ∧ rFor g tb D σ (Itl K a) H
def rForR1 (g : TG) (tb : TS) (D : Ends) (σ : L2.St) (vs : List V) (H : Hp) : Prop := ∃ j : Int, vs = [.int j] ∧ -(2 ^ 62) ≤ j ∧ j < 2 ^ 62 ∧ rFor g tb D σ (Itr 0 j.toNat) H
def rForR2 (g : TG) (tb : TS) (D : Ends) (σ : L2.St) (vs : List V) (H : Hp) : Prop := ∃ i j : Int, vs = [.int i, .int j] ∧ (-(2 ^ 62) ≤ i ∧ i < 2 ^ 62 ∧ -(2 ^ 62) ≤ j ∧ j < 2 ^ 62) ∧ rFor g tb D σ (Itr i (j - i).toNat) H
section
variable {K : PySem.W.Frag} {g : TG} {tb : TS} {D : Ends} {σ : L2.St} {H : Hp} {te : TE} {ta : TA} {a : Addr} {xs : List V} {n j : Nat}
theorem r_forL (h : te σ H fun x H1 => rForL K g tb D σ x H1) : tFor (iList K te) g tb D σ H := h
theorem r_forR1 (h : ta σ H fun vs H1 => rForR1 g tb D σ vs H1) : tFor (iRng1 ta) g tb D σ H := h
theorem r_forR2 (h : ta σ H fun vs H1 => rForR2 g tb D σ vs H1) : tFor (iRng2 ta) g tb D σ H := h
theorem l_seq (h : σ[n]? = some (some (.ref a))) (hq : Sq K H a xs) (Pv : Nat → L2.St → Hp → Prop) (h0 : Pv 0 σ H) (hl : ∀ i σ' H', i ≤ xs.length → Pv i σ' H' → Same H H')
    (hs : ∀ (i : Nat) x σ' H', xs[i]? = some x → Pv i σ' H' → tb { D with nx := Pv (i + 1), ct := Pv (i + 1), bk := D.nx } (σ'.set j (some x)) H') (hd : ∀ σ' H', Pv xs.length σ' H' → D.nx σ' H') : tFor (iSeqV K n) (gName j) tb D σ H := by
  rcases hq with hq | hq
  · exact .inl ⟨_, h, a, rfl, ⟨xs, hq⟩, for_list Pv h0 (fun i σ' H' l p => (hl i σ' H' l p).seq hq) hs hd⟩
  · refine .inr ⟨_, h, a, rfl, ⟨xs, hq⟩, for_tup Pv h0 (fun i σ' H' l p => ?_) hs hd⟩
    rcases hq with (hq | ⟨o, hq⟩) | hq
    · exact .inl (.inl (hl i σ' H' l p _ _ hq))
    · exact .inl (.inr ⟨o, hl i σ' H' l p _ _ hq⟩)
    · exact .inr hq
theorem l_list (hq : SqL K H a xs) (Pv : Nat → L2.St → Hp → Prop) (h0 : Pv 0 σ H) (hl : ∀ i σ' H', i ≤ xs.length → Pv i σ' H' → SqL K H' a xs)
    (hs : ∀ (i : Nat) x σ' H', xs[i]? = some x → Pv i σ' H' → tb { D with nx := Pv (i + 1), ct := Pv (i + 1), bk := D.nx } (σ'.set j (some x)) H') (hd : ∀ σ' H', Pv xs.length σ' H' → D.nx σ' H') : rForL K (gName j) tb D σ (.ref a) H :=
  ⟨a, rfl, ⟨xs, hq⟩, for_list Pv h0 hl hs hd⟩
theorem l_range1 {m : Int} (hm : m < 2 ^ 62) (h00 : 0 ≤ m) (Pv : Nat → L2.St → Hp → Prop) (h0 : Pv 0 σ H)
    (hs : ∀ (i : Nat) σ' H', (i : Int) < m → Pv i σ' H' → tb { D with nx := Pv (i + 1), ct := Pv (i + 1), bk := D.nx } (σ'.set j (some (.int (i : Int)))) H') (hd : ∀ σ' H', Pv m.toNat σ' H' → D.nx σ' H') : rForR1 (gName j) tb D σ [.int m] H :=
  ⟨m, rfl, by omega, hm, for_range Pv h0 (fun i σ' H' l p => by
    show tb _ (σ'.set j (some (.int (0 + (i : Int))))) H'
    rw [Int.zero_add]
    exact hs i σ' H' (by omega) p) hd⟩
theorem l_range2 {lo hi : Int} (h1 : -(2 ^ 62) ≤ lo) (h2 : lo < 2 ^ 62) (h3 : -(2 ^ 62) ≤ hi) (h4 : hi < 2 ^ 62) (Pv : Nat → L2.St → Hp → Prop) (h0 : Pv 0 σ H)
    (hs : ∀ (i : Nat) σ' H', lo + (i : Int) < hi → Pv i σ' H' → tb { D with nx := Pv (i + 1), ct := Pv (i + 1), bk := D.nx } (σ'.set j (some (.int (lo + (i : Int))))) H') (hd : ∀ σ' H', Pv (hi - lo).toNat σ' H' → D.nx σ' H') : rForR2 (gName j) tb D σ [.int lo, .int hi] H :=
  ⟨lo, hi, rfl, ⟨h1, h2, h3, h4⟩, for_range Pv h0 (fun i σ' H' l p => hs i σ' H' (by omega) p) hd⟩
end

/-! ### comprehensions -/
def rLc (g : TG) (tt : TT) (te : TE) (vs : List Nat) (σ : L2.St) (Q : VK) (J : It) (H1 : Hp) : Prop := ∀ D, H1 D = none → ∃ W : Nat → Nat → Hp → Prop, (∃ m, W 0 m (upd H1 D (.lst []))) ∧ ∀ i m H, W i m H →
  (J.stop i H ∧ Q (.ref D) H) ∨ (J.go i H ∧ ∃ Nx : Hp → Prop, (∀ H', Nx H' → ∃ m', m' < m ∧ W (i + 1) m' H') ∧ ∀ x H', J.yld i H x H' → g x (wipe σ vs) H' fun σ2 H2 => wipe σ2 vs = wipe σ vs ∧ tt σ2 H2 fun b H3 =>
    if b = true then te σ2 H3 fun y H4 => ∃ acc, H4 D = some (.lst acc) ∧ acc.length < sizeLine ∧ Nx (upd H4 D (.lst (acc ++ [y]))) else Nx H3)
/-- what is asked of the next item -/
def rIt (D : Addr) (N : Hp → Prop) (y : V) (H : Hp) : Prop := ∃ acc, H D = some (.lst acc) ∧ acc.length < sizeLine ∧ N (upd H D (.lst (acc ++ [y])))
def rLcL (K : PySem.W.Frag) (g : TG) (tt : TT) (te : TE) (vs : List Nat) (σ : L2.St) (Q : VK) (x : V) (H : Hp) : Prop := ∃ a, x = .ref a ∧ (∃ xs, SqL K H a xs) ∧ rLc g tt te vs σ Q (Itl K a) H
def rLcR1 (g : TG) (tt : TT) (te : TE) (vs : List Nat) (σ : L2.St) (Q : VK) (ws : List V) (H : Hp) : Prop := ∃ j : Int, ws = [.int j] ∧ -(2 ^ 62) ≤ j ∧ j < 2 ^ 62 ∧ rLc g tt te vs σ Q (Itr 0 j.toNat) H
def rLcR2 (g : TG) (tt : TT) (te : TE) (vs : List Nat) (σ : L2.St) (Q : VK) (ws : List V) (H : Hp) : Prop := ∃ i j : Int, ws = [.int i, .int j] ∧ (-(2 ^ 62) ≤ i ∧ i < 2 ^ 62 ∧ -(2 ^ 62) ≤ j ∧ j < 2 ^ 62) ∧ rLc g tt te vs σ Q (Itr i (j - i).toNat) H
section
variable {K : PySem.W.Frag} {g : TG} {tt : TT} {te tl : TE} {vs : List Nat} {σ : L2.St} {H : Hp} {Q : VK} {ta : TA} {a : Addr} {xs : List V} {j : Nat}
theorem r_lcL (h : tl σ H fun x H1 => rLcL K g tt te vs σ Q x H1) : tLc (iList K tl) g tt te vs σ H Q := h
theorem r_lcR1 (h : ta σ H fun ws H1 => rLcR1 g tt te vs σ Q ws H1) : tLc (iRng1 ta) g tt te vs σ H Q := h
theorem r_lcR2 (h : ta σ H fun ws H1 => rLcR2 g tt te vs σ Q ws H1) : tLc (iRng2 ta) g tt te vs σ H Q := h
theorem c_list (hq : SqL K H a xs) (Pv : Addr → Nat → Hp → Prop) (hw : ∀ x, wipe ((wipe σ vs).set j (some x)) vs = wipe σ vs) (h0 : ∀ D H1, Nw D (.lst []) H H1 → Pv D 0 H1) (hl : ∀ D i H', i ≤ xs.length → Pv D i H' → SqL K H' a xs)
    (hs : ∀ D (i : Nat) x H', xs[i]? = some x → Pv D i H' → tt ((wipe σ vs).set j (some x)) H' fun b H3 => if b = true then te ((wipe σ vs).set j (some x)) H3 fun y H4 => rIt D (Pv D (i + 1)) y H4 else Pv D (i + 1) H3)
    (hd : ∀ D H', Pv D xs.length H' → Q (.ref D) H') : rLcL K (gName j) tt te vs σ Q (.ref a) H :=
  ⟨a, rfl, ⟨xs, hq⟩, fun D hD => lc_list (Pv D) (h0 D _ ⟨hD, rfl⟩) (hl D) (fun i x H' e p => ⟨hw x, hs D i x H' e p⟩) (hd D)⟩
theorem c_range1 {m : Int} (hm : m < 2 ^ 62) (h00 : 0 ≤ m) (Pv : Addr → Nat → Hp → Prop) (hw : ∀ x, wipe ((wipe σ vs).set j (some x)) vs = wipe σ vs) (h0 : ∀ D H1, Nw D (.lst []) H H1 → Pv D 0 H1)
    (hs : ∀ D (i : Nat) H', (i : Int) < m → Pv D i H' → tt ((wipe σ vs).set j (some (.int (i : Int)))) H' fun b H3 => if b = true then te ((wipe σ vs).set j (some (.int (i : Int)))) H3 fun y H4 => rIt D (Pv D (i + 1)) y H4 else Pv D (i + 1) H3)
    (hd : ∀ D H', Pv D m.toNat H' → Q (.ref D) H') : rLcR1 (gName j) tt te vs σ Q [.int m] H :=
  ⟨m, rfl, by omega, hm, fun D hD => lc_range (lo := 0) (Pv D) (h0 D _ ⟨hD, rfl⟩) (fun i H' e p => by
    show wipe ((wipe σ vs).set j (some (.int (0 + (i : Int))))) vs = wipe σ vs ∧ tt ((wipe σ vs).set j (some (.int (0 + (i : Int))))) H' _
    rw [Int.zero_add]
    exact ⟨hw _, hs D i H' (by omega) p⟩) (hd D)⟩
theorem c_range2 {lo hi : Int} (h1 : -(2 ^ 62) ≤ lo) (h2 : lo < 2 ^ 62) (h3 : -(2 ^ 62) ≤ hi) (h4 : hi < 2 ^ 62) (Pv : Addr → Nat → Hp → Prop) (hw : ∀ x, wipe ((wipe σ vs).set j (some x)) vs = wipe σ vs) (h0 : ∀ D H1, Nw D (.lst []) H H1 → Pv D 0 H1)
    (hs : ∀ D (i : Nat) H', lo + (i : Int) < hi → Pv D i H' → tt ((wipe σ vs).set j (some (.int (lo + (i : Int))))) H' fun b H3 => if b = true then te ((wipe σ vs).set j (some (.int (lo + (i : Int))))) H3 fun y H4 => rIt D (Pv D (i + 1)) y H4 else Pv D (i + 1) H3)
    (hd : ∀ D H', Pv D (hi - lo).toNat H' → Q (.ref D) H') : rLcR2 (gName j) tt te vs σ Q [.int lo, .int hi] H :=
  ⟨lo, hi, rfl, ⟨h1, h2, h3, h4⟩, fun D hD => lc_range (lo := lo) (Pv D) (h0 D _ ⟨hD, rfl⟩) (fun i H' e p => ⟨hw _, hs D i H' (by omega) p⟩) (hd D)⟩
theorem r_it {D : Addr} {N : Hp → Prop} {y : V} {acc : List V} (h : H D = some (.lst acc)) (hl : acc.length ≤ 1000000) (q : ∀ H', Mu D (.lst (acc ++ [y])) H H' → N H') : rIt D N y H := ⟨acc, h, Nat.lt_of_le_of_lt hl (by decide), q _ rfl⟩
theorem r_yesT {QT : Bool → Hp → Prop} (q : QT true H) : tYes σ H QT := q
end

/-! ### built-ins, by names -/
def rInt : List V → Hp → VK → Prop := fun xs H Q => (∃ i, xs = [.int i] ∧ Q (.int i) H) ∨ ∃ k, xs = [.bl k] ∧ Q (.int (if k then 1 else 0)) H
def rAbs : List V → Hp → VK → Prop := fun xs H Q => ∃ i, xs = [.int i] ∧ Q (.int (if i < 0 then -i else i)) H
def rMax2 : List V → Hp → VK → Prop := fun xs H Q => ∃ i j, xs = [.int i, .int j] ∧ Q (.int (if j > i then j else i)) H
def rMin2 : List V → Hp → VK → Prop := fun xs H Q => ∃ i j, xs = [.int i, .int j] ∧ Q (.int (if j < i then j else i)) H
def rLen (K : PySem.W.Frag) : List V → Hp → VK → Prop := fun xs H Q => ∃ p ys, xs = [.ref p] ∧ (SqL K H p ys ∨ SqT K H p ys) ∧ Q (.int ys.length) H
def rIsNo : R2 := fun x y H Q => y = .non ∧ Q (.bl (decide (x = .non))) H
def rNotNo : R2 := fun x y H Q => y = .non ∧ Q (.bl (!decide (x = .non))) H
section
variable {X : Cx}
theorem cr_int : CallR X (.type "int") rInt := call_int1
theorem cr_abs : CallR X (.builtin "abs") rAbs := call_abs
theorem cr_max2 (h : X.calm = true) : CallR X (.builtin "max") rMax2 := call_max2 h
theorem cr_min2 (h : X.calm = true) : CallR X (.builtin "min") rMin2 := call_min2 h
theorem cr_len : CallR X (.builtin "len") (rLen X.K) := call_len_seq
theorem op_isNo : OpR X (compareOp .Is) rIsNo := op_isN
theorem op_notNo : OpR X (compareOp .IsNot) rNotNo := op_notN
end
def rBMa (K : PySem.W.Frag) (T : String) (r : V → List V → Hp → VK → Prop) (t : TA) (σ : L2.St) (x : V) (H : Hp) (Q : VK) : Prop := tyV K T x H ∧ t σ H fun xs H2 => r x xs H2 Q
def rBM0 (K : PySem.W.Frag) (T : String) (r : V → List V → Hp → VK → Prop) (x : V) (H : Hp) (Q : VK) : Prop := tyV K T x H ∧ r x [] H Q
section
variable {K : PySem.W.Frag} {σ : L2.St} {H : Hp} {Q : VK} {i j : Int} {k : Bool} {p a : Addr} {xs ys : List V} {x y v : V} {to : TE} {t : TA} {T : String} {r : V → List V → Hp → VK → Prop} {QU : Hp → Prop}
theorem r_int (q : Q (.int i) H) : rInt [.int i] H Q := .inl ⟨i, rfl, q⟩
theorem r_intB (q : Q (.int (if k then 1 else 0)) H) : rInt [.bl k] H Q := .inr ⟨k, rfl, q⟩
theorem r_abs (q : Q (.int (if i < 0 then -i else i)) H) : rAbs [.int i] H Q := ⟨i, rfl, q⟩
theorem r_max2 (q : Q (.int (if j > i then j else i)) H) : rMax2 [.int i, .int j] H Q := ⟨i, j, rfl, q⟩
theorem r_min2 (q : Q (.int (if j < i then j else i)) H) : rMin2 [.int i, .int j] H Q := ⟨i, j, rfl, q⟩
theorem r_lenT (h : SqT K H p xs) (q : Q (.int (xs.length : Int)) H) : rLen K [.ref p] H Q := ⟨p, xs, rfl, .inr h, q⟩
theorem r_lenL (h : SqL K H p xs) (q : Q (.int (xs.length : Int)) H) : rLen K [.ref p] H Q := ⟨p, xs, rfl, .inl h, q⟩
theorem r_isNo (q : Q (.bl (decide (x = .non))) H) : rIsNo x .non H Q := ⟨rfl, q⟩
theorem r_notNo (q : Q (.bl (!decide (x = .non))) H) : rNotNo x .non H Q := ⟨rfl, q⟩
theorem r_isBl {b : Bool} (q : Q (.bl (decide (k = b))) H) : rIsB (.bl k) (.bl b) H Q := ⟨k, b, rfl, rfl, q⟩
theorem r_isi {s b : String} {c : Bool} (t : TyX K H x (.type s)) (h : PySem.W.kitOne K (.type s) (.type b) = some c) (q : Q (.bl c) H) : rIsi K [x, .ty b] H Q := ⟨x, _, _, _, c, rfl, .ty b, t, h, q⟩
theorem ty_int : TyX K H (.int i) (.type "int") := .base (.int i)
theorem ty_bl : TyX K H (.bl k) (.type "bool") := .base (.bl k)
theorem ty_non : TyX K H .non (.type "NoneType") := .base .non
theorem ty_str {s : Str} : TyX K H (.str s) (.type "str") := .base (.str s)
theorem ty_tup (h : Tp K H p xs) : TyX K H (.ref p) (.type "tuple") := by
  rcases h with h | ⟨o, _, _, e, c, _⟩
  · exact .base (.tup h)
  · exact .kTuple e c
theorem r_isi_it (q : Q (.bl false) H) : rIsi K [.int i, .ty "tuple"] H Q := r_isi ty_int (kit_ty (by decide +kernel)) q
theorem r_isi_ib (q : Q (.bl false) H) : rIsi K [.int i, .ty "bool"] H Q := r_isi ty_int (kit_ty (by decide +kernel)) q
theorem r_isi_ii (q : Q (.bl true) H) : rIsi K [.int i, .ty "int"] H Q := r_isi ty_int (kit_ty (by decide +kernel)) q
theorem r_isi_bt (q : Q (.bl false) H) : rIsi K [.bl k, .ty "tuple"] H Q := r_isi ty_bl (kit_ty (by decide +kernel)) q
theorem r_isi_bb (q : Q (.bl true) H) : rIsi K [.bl k, .ty "bool"] H Q := r_isi ty_bl (kit_ty (by decide +kernel)) q
theorem r_isi_nt (q : Q (.bl false) H) : rIsi K [.non, .ty "tuple"] H Q := r_isi ty_non (kit_ty (by decide +kernel)) q
theorem r_isi_st {s : Str} (q : Q (.bl false) H) : rIsi K [.str s, .ty "tuple"] H Q := r_isi ty_str (kit_ty (by decide +kernel)) q
theorem r_isi_sb {s : Str} (q : Q (.bl false) H) : rIsi K [.str s, .ty "bool"] H Q := r_isi ty_str (kit_ty (by decide +kernel)) q
theorem r_isi_si {s : Str} (q : Q (.bl false) H) : rIsi K [.str s, .ty "int"] H Q := r_isi ty_str (kit_ty (by decide +kernel)) q
theorem r_isi_ss {s : Str} (q : Q (.bl true) H) : rIsi K [.str s, .ty "str"] H Q := r_isi ty_str (kit_ty (by decide +kernel)) q
theorem r_isi_tt (h : Tp K H p xs) (q : Q (.bl true) H) : rIsi K [.ref p, .ty "tuple"] H Q := r_isi (ty_tup h) (kit_ty (by decide +kernel)) q
-- methods of lists, stores
theorem r_BMa (h : to σ H fun x H1 => rBMa K T r t σ x H1 Q) : tBM K T r to t σ H Q := h
theorem r_BM0 (h : to σ H fun x H1 => rBM0 K T r x H1 Q) : tBM0 K T r to σ H Q := h
theorem r_lm (h : SqL K H p xs) (q : t σ H fun ys H2 => r (.ref p) ys H2 Q) : rBMa K "list" r t σ (.ref p) H Q := ⟨.inl ⟨rfl, xs, h⟩, q⟩
theorem r_app (h : H p = some (.lst xs)) (l : xs.length ≤ 1000000) (q : ∀ H', Mu p (.lst (xs ++ [y])) H H' → Q .non H') : rAppend (.ref p) [y] H Q := ⟨p, xs, y, rfl, rfl, h, Nat.lt_of_le_of_lt l (by decide), q _ rfl⟩
theorem r_pop (h : H p = some (.lst (xs ++ [y]))) (q : ∀ H', Mu p (.lst xs) H H' → Q y H') : rBM0 K "list" rPop (.ref p) H Q := by
  refine ⟨.inl ⟨rfl, _, SqL.of h⟩, p, _, y, rfl, rfl, h, ?_, ?_⟩
  · rw [List.length_append, List.length_singleton, Nat.add_sub_cancel]
    exact List.getElem?_concat_length
  · rw [List.dropLast_concat]
    exact q _ rfl
def rSub (t : TSet) (o i v : V) (H : Hp) (Q : Hp → Prop) : Prop := t o i v H Q
theorem r_gSub {ti : TE} {ts : TSet} {QS : L2.St → Hp → Prop} (h : to σ H fun o H1 => ti σ H1 fun i H2 => rSub ts o i v H2 fun H3 => QS σ H3) : gSub to ti ts v σ H QS := h
theorem r_setL {n : Nat} (h : H p = some (.lst xs)) (e : ixN xs.length i = some n) (q : ∀ H', Mu p (.lst (xs.set n v)) H H' → QU H') : rSub rSetL (.ref p) (.int i) v H QU := ⟨p, xs, i, n, rfl, rfl, h, e, q _ rfl⟩
-- comparisons of lists of ints with the empty one
theorem dp_ints : ∀ cs : List Int, DpAll K H (cs.map V.int) (cs.map PyData.int)
  | [] => .nil
  | c :: cs => .cons (.int c) (dp_ints cs)
theorem lay_ints : ∀ cs : List Int, PyData.canLayAll0 (cs.map PyData.int) = true
  | [] => rfl
  | c :: cs => by
    show (PyData.canLay0 (.int c) && PyData.canLayAll0 (cs.map PyData.int)) = true
    rw [lay_ints cs]
    rfl
theorem dep_ints : ∀ cs : List Int, PyData.depthAll (cs.map PyData.int) = 0
  | [] => rfl
  | c :: cs => by
    show max (PyData.depth (.int c)) (PyData.depthAll (cs.map PyData.int)) = 0
    rw [dep_ints cs]
    rfl
theorem shaped_ints (cs : List Int) : SeqAt.shaped (.list (cs.map PyData.int)) = true := by
  show (PyData.canLay0 (.list (cs.map PyData.int)) && decide (PyData.depthAll (cs.map PyData.int) + 1 ≤ 64)) = true
  rw [dep_ints]
  show (PyData.canLayAll0 (cs.map PyData.int) && decide (0 + 1 ≤ 64)) = true
  rw [lay_ints]
  rfl
theorem r_neNil {cs : List Int} (h : SqL K H p (cs.map V.int)) (h' : SqL K H a []) (q : Q (.bl (!decide (cs = []))) H) : rNeD K (.ref p) (.ref a) H Q := by
  refine ⟨_, _, .lst h (dp_ints cs), .lst h' .nil, shaped_ints cs, shaped_ints [], ?_⟩
  cases cs with
  | nil => exact q
  | cons c cs => exact q
end

/-! ### joins -/
section
variable {tt : TT} {tb s1 s2 : TS} {D : Ends} {σ : L2.St} {H : Hp}
theorem l_while (W : Nat → L2.St → Hp → Prop) (Post : L2.St → Hp → Prop) {m0 : Nat} (h0 : W m0 σ H)
    (hs : ∀ nx : L2.St → Hp → Prop, (∀ σ' H', Post σ' H' → nx σ' H') → ∀ m σ' H', W m σ' H' → tt σ' H' fun b H1 => if b = true then ∃ N : L2.St → Hp → Prop, (∀ σ2 H2, N σ2 H2 → ∃ m', m' < m ∧ W m' σ2 H2) ∧ tb { D with nx := N, ct := N, bk := nx } σ' H1 else nx σ' H1)
    (hd : ∀ σ' H', Post σ' H' → D.nx σ' H') : tWhile tt tb D σ H := ⟨W, ⟨m0, h0⟩, hs D.nx hd⟩
theorem l_if (Post : L2.St → Hp → Prop) (hs : ∀ nx : L2.St → Hp → Prop, (∀ σ' H', Post σ' H' → nx σ' H') → tt σ H fun b H1 => if b = true then s1 { D with nx := nx } σ H1 else s2 { D with nx := nx } σ H1)
    (hd : ∀ σ' H', Post σ' H' → D.nx σ' H') : tIfS tt s1 s2 D σ H := hs D.nx hd
end

/-! ### more readings -/
def rCh (x : V) (k : Bool → Prop) : Prop := ∃ c, x = .bl c ∧ k c
def rPa (x : V) (H : Hp) (Q : Option Int → Hp → Prop) : Prop := ∃ i, x = .int i ∧ Q (some i) H
def rRev (K : PySem.W.Frag) (x : V) (H : Hp) (Q : VK) : Prop := ∃ a xs, x = .ref a ∧ SqL K H a xs ∧ ∀ p, H p = none → Q (.ref p) (upd H p (.lst xs.reverse))
section
variable {K : PySem.W.Frag} {σ : L2.St} {H H0 H' : Hp} {Q : VK} {ta tb te : TE} {tl th : TO} {i : Int} {c : Bool} {kk : Bool → Prop} {p a : Addr} {xs : List V} {QO : Option Int → Hp → Prop} {lo hi : Option Int} {o : HO}
theorem r_ch (h : kk c) : rCh (.bl c) kk := ⟨c, rfl, h⟩
theorem r_andV (h : ta σ H fun x H1 => rCh x fun c => if c = true then tb σ H1 Q else Q (.bl false) H1) : tAndV ta tb σ H Q := h
theorem r_orV (h : ta σ H fun x H1 => rCh x fun c => if c = true then Q (.bl true) H1 else tb σ H1 Q) : tOrV ta tb σ H Q := h
theorem r_notV (h : ta σ H fun x H1 => rCh x fun c => Q (.bl (!c)) H1) : tNotV ta σ H Q := h
theorem r_sl {r : V → Option Int → Option Int → Hp → VK → Prop} (h : te σ H fun x H1 => tl σ H1 fun l H2 => th σ H2 fun u H3 => r x l u H3 Q) : tSl r te tl th σ H Q := h
theorem r_noPart (h : QO none H) : tNoPart σ H QO := h
theorem r_part (h : te σ H fun x H1 => rPa x H1 QO) : tPart te σ H QO := h
theorem r_pa (h : QO (some i) H) : rPa (.int i) H QO := ⟨i, rfl, h⟩
theorem r_slL (h : SqL K H a xs) (q : ∀ p H', Nw p (.lst (cutV xs lo hi)) H H' → Q (.ref p) H') : rSlL K (.ref a) lo hi H Q := ⟨a, xs, rfl, h, fun p np => q p _ ⟨np, rfl⟩⟩
theorem r_tRev (h : te σ H fun x H1 => rRev K x H1 Q) : tRevL K te σ H Q := h
theorem r_rev (h : SqL K H a xs) (q : ∀ p H', Nw p (.lst xs.reverse) H H' → Q (.ref p) H') : rRev K (.ref a) H Q := ⟨a, xs, rfl, h, fun p np => q p _ ⟨np, rfl⟩⟩
theorem Mu.same0 (m : Mu p o H H') (h : Same H0 H) (n : H0 p = none) : Same H0 H' := fun x u e => by rw [m.ne (ne_of_none e n)]; exact h x u e
theorem at_ok {r : Int} (h0 : 0 ≤ r) (h1 : r < xs.length) : ∃ x, x ∈ xs ∧ xs[r.toNat]? = some x ∧ atI xs r = some x := by
  have hl : r.toNat < xs.length := by omega
  refine ⟨xs[r.toNat], List.getElem_mem hl, List.getElem?_eq_getElem hl, ?_⟩
  have := atI_nat (List.getElem?_eq_getElem hl)
  rw [Int.toNat_of_nonneg h0] at this
  exact this
end
/-- a promise of nothing -/
theorem fn_no {P : Program} {w : World} {K : PySem.W.Frag} {mg : Str → Option Value} {base : Heap} {k : Nat} {f : Addr} {fd : FuncData} {ps : List Str} : FnOk P w K mg base CX0 k f fd ps (fun _ _ _ _ => False) :=
  ⟨fun _ _ _ _ h => h.elim, fun _ _ _ _ _ _ _ _ _ _ _ _ _ h => h.elim⟩
theorem cut_all {xs : List V} {n : Nat} (h : xs.length ≤ n) : cutV xs none (some (n : Int)) = xs := by
  unfold cutV
  rw [HT.sIx_none, HT.sIx_nat, Nat.min_eq_right h]
  show (xs.drop 0).take (xs.length - 0) = xs
  rw [List.drop_zero, Nat.sub_zero, List.take_length]

/-! ### rules with the written part told -/
section
variable {X : Cx} (K : PySem.W.Frag)
theorem ix_sqK (h : X.K = K := by rfl) : IxR X (rIx K) := by subst h; exact ix_seq
theorem cr_lenK (h : X.K = K := by rfl) : CallR X (.builtin "len") (rLen K) := by subst h; exact cr_len
theorem cr_isiK (h : X.K = K := by rfl) : CallR X (.builtin "isinstance") (rIsi K) := by subst h; exact call_isi
theorem op_eqDK (hu : X.A.units + 64 < cLine) (h : X.K = K := by rfl) : OpR X (compareOp .Eq) (rEqD K) := by subst h; exact op_eqD hu
theorem op_neDK (hu : X.A.units + 64 < cLine) (h : X.K = K := by rfl) : OpR X (compareOp .NotEq) (rNeD K) := by subst h; exact op_neD hu
theorem op_inK (h : X.K = K := by rfl) : OpR X (compareOp .In) (rIn K false) := by subst h; exact op_in_seq
theorem op_notInK (h : X.K = K := by rfl) : OpR X (compareOp .NotIn) (rIn K true) := by subst h; exact op_notIn_seq
theorem sl_listK (h : X.K = K := by rfl) : SlR X (rSlL K) := by subst h; exact sl_list
theorem pi_listK {tg l : Expr} {tl : TE} (hl : PE X l tl) (h : X.K = K := by rfl) : PI X tg l (iList K tl) := by subst h; exact pi_list hl
theorem pi_seqVK {tg l : Expr} {n : Nat} (hl : PE X l (tVar n)) (h : X.K = K := by rfl) : PI X tg l (iSeqV K n) := by subst h; exact pi_seqV hl
theorem pe_revLK {e : Expr} {te : TE} {k : Nat} {p1 p2 p3 pos : Pos} (he : PE X e te) (h : X.K = K := by rfl) : PE X (.Subscript e (.Slice none none (some (.UnaryOp .USub (.Constant (.int 1) k p1) p2)) p3) pos) (tRevL K te) := by subst h; exact pe_revL he
end

theorem r_nF {A B : Prop} (q : A) : if (!false) = true then A else B := q
theorem r_nT {A B : Prop} (q : B) : if (!true) = true then A else B := iteF q

section
variable {K : PySem.W.Frag} {σ : L2.St} {H : Hp} {Q : VK} {QS : L2.St → Hp → Prop} {a p : Addr} {xs : List V} {x v : V} {n : Nat} {g : TG} {u : TGs}
theorem r_gTup (h : SqT K H a xs) (hl : xs.length = n) (q : u xs σ H QS) : gTup K n u (.ref a) σ H QS := ⟨a, xs, rfl, h, hl, q⟩
theorem r_gCons (q : g v σ H fun σ' H' => u xs σ' H' QS) : gCons g u (v :: xs) σ H QS := ⟨v, xs, rfl, q⟩
theorem r_gNil (q : QS σ H) : gNil [] σ H QS := ⟨rfl, q⟩
theorem r_gName (q : QS (σ.set n (some v)) H) : gName n v σ H QS := q
theorem r_inL (h : SqL K H p xs) (hx : flatV x = true) (ha : xs.all flatV = true) (q : Q (.bl (inV x xs)) H) : rIn K false x (.ref p) H Q := ⟨p, xs, rfl, .inl h, hx, ha, q⟩
theorem r_inT (h : SqT K H p xs) (hx : flatV x = true) (ha : xs.all flatV = true) (q : Q (.bl (inV x xs)) H) : rIn K false x (.ref p) H Q := ⟨p, xs, rfl, .inr h, hx, ha, q⟩
theorem r_b {b : Bool} {A B : Prop} (h1 : b = true → A) (h2 : b = false → B) : if b = true then A else B := by
  cases b with
  | true => exact iteT (h1 rfl)
  | false => exact iteF (h2 rfl)
end

def rTuple (K : PySem.W.Frag) : List V → Hp → VK → Prop := fun xs H Q => ∃ p ys, xs = [.ref p] ∧ ((SqL K H p ys ∧ ∀ l, H l = none → Q (.ref l) (upd H l (.tup ys))) ∨ (SqT K H p ys ∧ Q (.ref p) H))
theorem cr_tupleK {X : Cx} (K : PySem.W.Frag) (h : X.K = K := by rfl) : CallR X (.type "tuple") (rTuple K) := by subst h; exact call_tuple_of
section
variable {K : PySem.W.Frag} {H : Hp} {Q : VK} {p a : Addr} {xs ys : List V}
theorem r_tupleL (h : SqL K H p xs) (q : ∀ l H', Nw l (.tup xs) H H' → Q (.ref l) H') : rTuple K [.ref p] H Q := ⟨p, xs, rfl, .inl ⟨h, fun l nl => q l _ ⟨nl, rfl⟩⟩⟩
theorem r_tupleT (h : SqT K H p xs) (q : Q (.ref p) H) : rTuple K [.ref p] H Q := ⟨p, xs, rfl, .inr ⟨h, q⟩⟩
theorem r_cat (h : H p = some (.lst xs)) (h' : H a = some (.lst ys)) (l : xs.length + ys.length ≤ 1000000) (q : ∀ l H', Nw l (.lst (xs ++ ys)) H H' → Q (.ref l) H') : rCat (.ref p) (.ref a) H Q :=
  ⟨p, a, xs, ys, rfl, rfl, h, h', Nat.le_trans l (by decide), fun l nl => q l _ ⟨nl, rfl⟩⟩
end
end Al

set_option Elab.async false
set_option linter.all false
set_option maxRecDepth 100000
set_option maxHeartbeats 4000000
namespace Al
open PySem PySem.Spec PyProof.Rows L2
def topS (i : Nat) : Stmt := PySem.Challenge.pw_allunmoved_k02_fractions_in_lowest_terms.main.body.getD i (.Pass ⟨0, 0, 0, 0⟩)
abbrev s_lowest : Stmt := topS 2
abbrev n_lowest : List Str := ["top", "bottom", "shared"]
abbrev p_lowest : List Str := ["top", "bottom"]
theorem sc_lowest : FnScope n_lowest p_lowest (defScope s_lowest) := ⟨rfl, rfl, rfl, by decide +kernel, rfl, by decide +kernel, by decide +kernel⟩
abbrev s_fraction : Stmt := topS 6
abbrev n_fraction : List Str := ["top", "bottom"]
abbrev p_fraction : List Str := ["top", "bottom"]
theorem sc_fraction : FnScope n_fraction p_fraction (defScope s_fraction) := ⟨rfl, rfl, rfl, by decide +kernel, rfl, by decide +kernel, by decide +kernel⟩
abbrev s_added : Stmt := topS 7
abbrev n_added : List Str := ["one", "other"]
abbrev p_added : List Str := ["one", "other"]
theorem sc_added : FnScope n_added p_added (defScope s_added) := ⟨rfl, rfl, rfl, by decide +kernel, rfl, by decide +kernel, by decide +kernel⟩
abbrev s_less : Stmt := topS 8
abbrev n_less : List Str := ["one", "other"]
abbrev p_less : List Str := ["one", "other"]
theorem sc_less : FnScope n_less p_less (defScope s_less) := ⟨rfl, rfl, rfl, by decide +kernel, rfl, by decide +kernel, by decide +kernel⟩
abbrev s_multiplied : Stmt := topS 9
abbrev n_multiplied : List Str := ["one", "other"]
abbrev p_multiplied : List Str := ["one", "other"]
theorem sc_multiplied : FnScope n_multiplied p_multiplied (defScope s_multiplied) := ⟨rfl, rfl, rfl, by decide +kernel, rfl, by decide +kernel, by decide +kernel⟩
abbrev s_divided : Stmt := topS 10
abbrev n_divided : List Str := ["one", "other"]
abbrev p_divided : List Str := ["one", "other"]
theorem sc_divided : FnScope n_divided p_divided (defScope s_divided) := ⟨rfl, rfl, rfl, by decide +kernel, rfl, by decide +kernel, by decide +kernel⟩
abbrev s_opposite : Stmt := topS 11
abbrev n_opposite : List Str := ["one"]
abbrev p_opposite : List Str := ["one"]
theorem sc_opposite : FnScope n_opposite p_opposite (defScope s_opposite) := ⟨rfl, rfl, rfl, by decide +kernel, rfl, by decide +kernel, by decide +kernel⟩
abbrev s_compared : Stmt := topS 12
abbrev n_compared : List Str := ["one", "other", "left", "right"]
abbrev p_compared : List Str := ["one", "other"]
theorem sc_compared : FnScope n_compared p_compared (defScope s_compared) := ⟨rfl, rfl, rfl, by decide +kernel, rfl, by decide +kernel, by decide +kernel⟩
abbrev s_sum_of : Stmt := topS 13
abbrev n_sum_of : List Str := ["fractions", "found", "one"]
abbrev p_sum_of : List Str := ["fractions"]
theorem sc_sum_of : FnScope n_sum_of p_sum_of (defScope s_sum_of) := ⟨rfl, rfl, rfl, by decide +kernel, rfl, by decide +kernel, by decide +kernel⟩
abbrev s_product_of : Stmt := topS 14
abbrev n_product_of : List Str := ["fractions", "found", "one"]
abbrev p_product_of : List Str := ["fractions"]
theorem sc_product_of : FnScope n_product_of p_product_of (defScope s_product_of) := ⟨rfl, rfl, rfl, by decide +kernel, rfl, by decide +kernel, by decide +kernel⟩
abbrev s_law_deal : Stmt := topS 16
abbrev n_law_deal : List Str := ["script", "salt", "cells", "mix", "cell"]
abbrev p_law_deal : List Str := ["script", "salt"]
theorem sc_law_deal : FnScope n_law_deal p_law_deal (defScope s_law_deal) := ⟨rfl, rfl, rfl, by decide +kernel, rfl, by decide +kernel, by decide +kernel⟩
abbrev s_law_any : Stmt := topS 17
abbrev n_law_any : List Str := ["deal", "bound", "rest"]
abbrev p_law_any : List Str := ["deal", "bound"]
theorem sc_law_any : FnScope n_law_any p_law_any (defScope s_law_any) := ⟨rfl, rfl, rfl, by decide +kernel, rfl, by decide +kernel, by decide +kernel⟩
abbrev s_law_of : Stmt := topS 18
abbrev n_law_of : List Str := ["deal", "some"]
abbrev p_law_of : List Str := ["deal", "some"]
theorem sc_law_of : FnScope n_law_of p_law_of (defScope s_law_of) := ⟨rfl, rfl, rfl, by decide +kernel, rfl, by decide +kernel, by decide +kernel⟩
abbrev s_law_same : Stmt := topS 19
abbrev n_law_same : List Str := ["told", "due", "k"]
abbrev p_law_same : List Str := ["told", "due"]
theorem sc_law_same : FnScope n_law_same p_law_same (defScope s_law_same) := ⟨rfl, rfl, rfl, by decide +kernel, rfl, by decide +kernel, by decide +kernel⟩
abbrev s_law_lowest : Stmt := topS 20
abbrev n_law_lowest : List Str := ["high", "low", "left", "right", "sign"]
abbrev p_law_lowest : List Str := ["high", "low"]
theorem sc_law_lowest : FnScope n_law_lowest p_law_lowest (defScope s_law_lowest) := ⟨rfl, rfl, rfl, by decide +kernel, rfl, by decide +kernel, by decide +kernel⟩
abbrev s_law_great : Stmt := topS 21
abbrev n_law_great : List Str := ["deal", "kind", "number", "turn"]
abbrev p_law_great : List Str := ["deal"]
theorem sc_law_great : FnScope n_law_great p_law_great (defScope s_law_great) := ⟨rfl, rfl, rfl, by decide +kernel, rfl, by decide +kernel, by decide +kernel⟩
abbrev s_law_signed : Stmt := topS 22
abbrev n_law_signed : List Str := ["deal", "number"]
abbrev p_law_signed : List Str := ["deal", "number"]
theorem sc_law_signed : FnScope n_law_signed p_law_signed (defScope s_law_signed) := ⟨rfl, rfl, rfl, by decide +kernel, rfl, by decide +kernel, by decide +kernel⟩
abbrev s_law_pair : Stmt := topS 23
abbrev n_law_pair : List Str := ["deal", "low"]
abbrev p_law_pair : List Str := ["deal"]
theorem sc_law_pair : FnScope n_law_pair p_law_pair (defScope s_law_pair) := ⟨rfl, rfl, rfl, by decide +kernel, rfl, by decide +kernel, by decide +kernel⟩
abbrev s_law_second : Stmt := topS 24
abbrev n_law_second : List Str := ["deal", "first", "kind", "times", "high", "low"]
abbrev p_law_second : List Str := ["deal", "first"]
theorem sc_law_second : FnScope n_law_second p_law_second (defScope s_law_second) := ⟨rfl, rfl, rfl, by decide +kernel, rfl, by decide +kernel, by decide +kernel⟩
abbrev s_law_order : Stmt := topS 25
abbrev n_law_order : List Str := ["first", "second", "left", "right"]
abbrev p_law_order : List Str := ["first", "second"]
theorem sc_law_order : FnScope n_law_order p_law_order (defScope s_law_order) := ⟨rfl, rfl, rfl, by decide +kernel, rfl, by decide +kernel, by decide +kernel⟩
abbrev s_law_two_hold : Stmt := topS 26
abbrev n_law_two_hold : List Str := ["deal", "raw", "second", "x", "y", "dues", "turn", "due", "sign"]
abbrev p_law_two_hold : List Str := ["deal"]
theorem sc_law_two_hold : FnScope n_law_two_hold p_law_two_hold (defScope s_law_two_hold) := ⟨rfl, rfl, rfl, by decide +kernel, rfl, by decide +kernel, by decide +kernel⟩
abbrev s_law_rows_hold : Stmt := topS 27
abbrev n_law_rows_hold : List Str := ["deal", "many", "row", "turn", "raw", "total", "product", "x", "kept"]
abbrev p_law_rows_hold : List Str := ["deal"]
theorem sc_law_rows_hold : FnScope n_law_rows_hold p_law_rows_hold (defScope s_law_rows_hold) := ⟨rfl, rfl, rfl, by decide +kernel, rfl, by decide +kernel, by decide +kernel⟩
abbrev s_law_shapes_hold : Stmt := topS 28
abbrev n_law_shapes_hold : List Str := ["deal", "many", "steps", "rises", "turned", "k"]
abbrev p_law_shapes_hold : List Str := ["deal"]
theorem sc_law_shapes_hold : FnScope n_law_shapes_hold p_law_shapes_hold (defScope s_law_shapes_hold) := ⟨rfl, rfl, rfl, by decide +kernel, rfl, by decide +kernel, by decide +kernel⟩
abbrev s_law : Stmt := topS 29
abbrev n_law : List Str := ["script", "deal", "raw", "due", "turn"]
abbrev p_law : List Str := ["script"]
theorem sc_law : FnScope n_law p_law (defScope s_law) := ⟨rfl, rfl, rfl, by decide +kernel, rfl, by decide +kernel, by decide +kernel⟩
def kg_fraction_bottom_top {α : Type} : List α → List α → List α
  | [], [w0, w1] => [w1, w0]
  | _, _ => []
theorem kr_fraction_bottom_top : ∀ {vs zs : List V} {us ws : List Value}, Vals vs us → Vals zs ws → Vals (kg_fraction_bottom_top vs zs) (kg_fraction_bottom_top us ws)
  | _, _, _, _, .nil, .nil => .nil
  | _, _, _, _, .nil, (.cons _ .nil) => .nil
  | _, _, _, _, .nil, (.cons b0 (.cons b1 .nil)) => (.cons b1 (.cons b0 .nil))
  | _, _, _, _, .nil, (.cons _ (.cons _ (.cons _ _))) => .nil
  | _, _, _, _, (.cons _ _), .nil => .nil
  | _, _, _, _, (.cons _ _), (.cons _ .nil) => .nil
  | _, _, _, _, (.cons _ _), (.cons _ (.cons _ .nil)) => .nil
  | _, _, _, _, (.cons _ _), (.cons _ (.cons _ (.cons _ _))) => .nil
def kg_less_other_one {α : Type} : List α → List α → List α
  | [], [w0, w1] => [w1, w0]
  | _, _ => []
theorem kr_less_other_one : ∀ {vs zs : List V} {us ws : List Value}, Vals vs us → Vals zs ws → Vals (kg_less_other_one vs zs) (kg_less_other_one us ws)
  | _, _, _, _, .nil, .nil => .nil
  | _, _, _, _, .nil, (.cons _ .nil) => .nil
  | _, _, _, _, .nil, (.cons b0 (.cons b1 .nil)) => (.cons b1 (.cons b0 .nil))
  | _, _, _, _, .nil, (.cons _ (.cons _ (.cons _ _))) => .nil
  | _, _, _, _, (.cons _ _), .nil => .nil
  | _, _, _, _, (.cons _ _), (.cons _ .nil) => .nil
  | _, _, _, _, (.cons _ _), (.cons _ (.cons _ .nil)) => .nil
  | _, _, _, _, (.cons _ _), (.cons _ (.cons _ (.cons _ _))) => .nil
def kg_added_other_one {α : Type} : List α → List α → List α
  | [], [w0, w1] => [w1, w0]
  | _, _ => []
theorem kr_added_other_one : ∀ {vs zs : List V} {us ws : List Value}, Vals vs us → Vals zs ws → Vals (kg_added_other_one vs zs) (kg_added_other_one us ws)
  | _, _, _, _, .nil, .nil => .nil
  | _, _, _, _, .nil, (.cons _ .nil) => .nil
  | _, _, _, _, .nil, (.cons b0 (.cons b1 .nil)) => (.cons b1 (.cons b0 .nil))
  | _, _, _, _, .nil, (.cons _ (.cons _ (.cons _ _))) => .nil
  | _, _, _, _, (.cons _ _), .nil => .nil
  | _, _, _, _, (.cons _ _), (.cons _ .nil) => .nil
  | _, _, _, _, (.cons _ _), (.cons _ (.cons _ .nil)) => .nil
  | _, _, _, _, (.cons _ _), (.cons _ (.cons _ (.cons _ _))) => .nil
def kg_multiplied_other_one {α : Type} : List α → List α → List α
  | [], [w0, w1] => [w1, w0]
  | _, _ => []
theorem kr_multiplied_other_one : ∀ {vs zs : List V} {us ws : List Value}, Vals vs us → Vals zs ws → Vals (kg_multiplied_other_one vs zs) (kg_multiplied_other_one us ws)
  | _, _, _, _, .nil, .nil => .nil
  | _, _, _, _, .nil, (.cons _ .nil) => .nil
  | _, _, _, _, .nil, (.cons b0 (.cons b1 .nil)) => (.cons b1 (.cons b0 .nil))
  | _, _, _, _, .nil, (.cons _ (.cons _ (.cons _ _))) => .nil
  | _, _, _, _, (.cons _ _), .nil => .nil
  | _, _, _, _, (.cons _ _), (.cons _ .nil) => .nil
  | _, _, _, _, (.cons _ _), (.cons _ (.cons _ .nil)) => .nil
  | _, _, _, _, (.cons _ _), (.cons _ (.cons _ (.cons _ _))) => .nil
def kg_divided_other_one {α : Type} : List α → List α → List α
  | [], [w0, w1] => [w1, w0]
  | _, _ => []
theorem kr_divided_other_one : ∀ {vs zs : List V} {us ws : List Value}, Vals vs us → Vals zs ws → Vals (kg_divided_other_one vs zs) (kg_divided_other_one us ws)
  | _, _, _, _, .nil, .nil => .nil
  | _, _, _, _, .nil, (.cons _ .nil) => .nil
  | _, _, _, _, .nil, (.cons b0 (.cons b1 .nil)) => (.cons b1 (.cons b0 .nil))
  | _, _, _, _, .nil, (.cons _ (.cons _ (.cons _ _))) => .nil
  | _, _, _, _, (.cons _ _), .nil => .nil
  | _, _, _, _, (.cons _ _), (.cons _ .nil) => .nil
  | _, _, _, _, (.cons _ _), (.cons _ (.cons _ .nil)) => .nil
  | _, _, _, _, (.cons _ _), (.cons _ (.cons _ (.cons _ _))) => .nil
def kg_compared_other_one {α : Type} : List α → List α → List α
  | [], [w0, w1] => [w1, w0]
  | _, _ => []
theorem kr_compared_other_one : ∀ {vs zs : List V} {us ws : List Value}, Vals vs us → Vals zs ws → Vals (kg_compared_other_one vs zs) (kg_compared_other_one us ws)
  | _, _, _, _, .nil, .nil => .nil
  | _, _, _, _, .nil, (.cons _ .nil) => .nil
  | _, _, _, _, .nil, (.cons b0 (.cons b1 .nil)) => (.cons b1 (.cons b0 .nil))
  | _, _, _, _, .nil, (.cons _ (.cons _ (.cons _ _))) => .nil
  | _, _, _, _, (.cons _ _), .nil => .nil
  | _, _, _, _, (.cons _ _), (.cons _ .nil) => .nil
  | _, _, _, _, (.cons _ _), (.cons _ (.cons _ .nil)) => .nil
  | _, _, _, _, (.cons _ _), (.cons _ (.cons _ (.cons _ _))) => .nil
def kg_product_of_fractions {α : Type} : List α → List α → List α
  | [], [w0] => [w0]
  | _, _ => []
theorem kr_product_of_fractions : ∀ {vs zs : List V} {us ws : List Value}, Vals vs us → Vals zs ws → Vals (kg_product_of_fractions vs zs) (kg_product_of_fractions us ws)
  | _, _, _, _, .nil, .nil => .nil
  | _, _, _, _, .nil, (.cons b0 .nil) => (.cons b0 .nil)
  | _, _, _, _, .nil, (.cons _ (.cons _ _)) => .nil
  | _, _, _, _, (.cons _ _), .nil => .nil
  | _, _, _, _, (.cons _ _), (.cons _ .nil) => .nil
  | _, _, _, _, (.cons _ _), (.cons _ (.cons _ _)) => .nil
def kg_sum_of_fractions {α : Type} : List α → List α → List α
  | [], [w0] => [w0]
  | _, _ => []
theorem kr_sum_of_fractions : ∀ {vs zs : List V} {us ws : List Value}, Vals vs us → Vals zs ws → Vals (kg_sum_of_fractions vs zs) (kg_sum_of_fractions us ws)
  | _, _, _, _, .nil, .nil => .nil
  | _, _, _, _, .nil, (.cons b0 .nil) => (.cons b0 .nil)
  | _, _, _, _, .nil, (.cons _ (.cons _ _)) => .nil
  | _, _, _, _, (.cons _ _), .nil => .nil
  | _, _, _, _, (.cons _ _), (.cons _ .nil) => .nil
  | _, _, _, _, (.cons _ _), (.cons _ (.cons _ _)) => .nil
structure Txt (K : PySem.W.Frag) (mg : Str → Option Value) where
  a_lowest : Addr
  d_lowest : FuncData
  f_lowest : Fun K "lowest" "lowest" s_lowest a_lowest d_lowest
  b_lowest : Binds K d_lowest p_lowest []
  g_lowest : mg "lowest" = some (.ref a_lowest)
  a_fraction : Addr
  d_fraction : FuncData
  f_fraction : Fun K "fraction" "fraction" s_fraction a_fraction d_fraction
  b_fraction : Binds K d_fraction p_fraction []
  g_fraction : mg "fraction" = some (.ref a_fraction)
  a_added : Addr
  d_added : FuncData
  f_added : Fun K "added" "added" s_added a_added d_added
  b_added : Binds K d_added p_added []
  g_added : mg "added" = some (.ref a_added)
  a_less : Addr
  d_less : FuncData
  f_less : Fun K "less" "less" s_less a_less d_less
  b_less : Binds K d_less p_less []
  g_less : mg "less" = some (.ref a_less)
  a_multiplied : Addr
  d_multiplied : FuncData
  f_multiplied : Fun K "multiplied" "multiplied" s_multiplied a_multiplied d_multiplied
  b_multiplied : Binds K d_multiplied p_multiplied []
  g_multiplied : mg "multiplied" = some (.ref a_multiplied)
  a_divided : Addr
  d_divided : FuncData
  f_divided : Fun K "divided" "divided" s_divided a_divided d_divided
  b_divided : Binds K d_divided p_divided []
  g_divided : mg "divided" = some (.ref a_divided)
  a_opposite : Addr
  d_opposite : FuncData
  f_opposite : Fun K "opposite" "opposite" s_opposite a_opposite d_opposite
  b_opposite : Binds K d_opposite p_opposite []
  g_opposite : mg "opposite" = some (.ref a_opposite)
  a_compared : Addr
  d_compared : FuncData
  f_compared : Fun K "compared" "compared" s_compared a_compared d_compared
  b_compared : Binds K d_compared p_compared []
  g_compared : mg "compared" = some (.ref a_compared)
  a_sum_of : Addr
  d_sum_of : FuncData
  f_sum_of : Fun K "sum_of" "sum_of" s_sum_of a_sum_of d_sum_of
  b_sum_of : Binds K d_sum_of p_sum_of []
  g_sum_of : mg "sum_of" = some (.ref a_sum_of)
  a_product_of : Addr
  d_product_of : FuncData
  f_product_of : Fun K "product_of" "product_of" s_product_of a_product_of d_product_of
  b_product_of : Binds K d_product_of p_product_of []
  g_product_of : mg "product_of" = some (.ref a_product_of)
  a_law_deal : Addr
  d_law_deal : FuncData
  f_law_deal : Fun K "_law_deal" "_law_deal" s_law_deal a_law_deal d_law_deal
  b_law_deal : Binds K d_law_deal p_law_deal []
  g_law_deal : mg "_law_deal" = some (.ref a_law_deal)
  a_law_any : Addr
  d_law_any : FuncData
  f_law_any : Fun K "_law_any" "_law_any" s_law_any a_law_any d_law_any
  b_law_any : Binds K d_law_any p_law_any []
  g_law_any : mg "_law_any" = some (.ref a_law_any)
  a_law_of : Addr
  d_law_of : FuncData
  f_law_of : Fun K "_law_of" "_law_of" s_law_of a_law_of d_law_of
  b_law_of : Binds K d_law_of p_law_of []
  g_law_of : mg "_law_of" = some (.ref a_law_of)
  a_law_same : Addr
  d_law_same : FuncData
  f_law_same : Fun K "_law_same" "_law_same" s_law_same a_law_same d_law_same
  b_law_same : Binds K d_law_same p_law_same []
  g_law_same : mg "_law_same" = some (.ref a_law_same)
  a_law_lowest : Addr
  d_law_lowest : FuncData
  f_law_lowest : Fun K "_law_lowest" "_law_lowest" s_law_lowest a_law_lowest d_law_lowest
  b_law_lowest : Binds K d_law_lowest p_law_lowest []
  g_law_lowest : mg "_law_lowest" = some (.ref a_law_lowest)
  a_law_great : Addr
  d_law_great : FuncData
  f_law_great : Fun K "_law_great" "_law_great" s_law_great a_law_great d_law_great
  b_law_great : Binds K d_law_great p_law_great []
  g_law_great : mg "_law_great" = some (.ref a_law_great)
  a_law_signed : Addr
  d_law_signed : FuncData
  f_law_signed : Fun K "_law_signed" "_law_signed" s_law_signed a_law_signed d_law_signed
  b_law_signed : Binds K d_law_signed p_law_signed []
  g_law_signed : mg "_law_signed" = some (.ref a_law_signed)
  a_law_pair : Addr
  d_law_pair : FuncData
  f_law_pair : Fun K "_law_pair" "_law_pair" s_law_pair a_law_pair d_law_pair
  b_law_pair : Binds K d_law_pair p_law_pair []
  g_law_pair : mg "_law_pair" = some (.ref a_law_pair)
  a_law_second : Addr
  d_law_second : FuncData
  f_law_second : Fun K "_law_second" "_law_second" s_law_second a_law_second d_law_second
  b_law_second : Binds K d_law_second p_law_second []
  g_law_second : mg "_law_second" = some (.ref a_law_second)
  a_law_order : Addr
  d_law_order : FuncData
  f_law_order : Fun K "_law_order" "_law_order" s_law_order a_law_order d_law_order
  b_law_order : Binds K d_law_order p_law_order []
  g_law_order : mg "_law_order" = some (.ref a_law_order)
  a_law_two_hold : Addr
  d_law_two_hold : FuncData
  f_law_two_hold : Fun K "_law_two_hold" "_law_two_hold" s_law_two_hold a_law_two_hold d_law_two_hold
  b_law_two_hold : Binds K d_law_two_hold p_law_two_hold []
  g_law_two_hold : mg "_law_two_hold" = some (.ref a_law_two_hold)
  a_law_rows_hold : Addr
  d_law_rows_hold : FuncData
  f_law_rows_hold : Fun K "_law_rows_hold" "_law_rows_hold" s_law_rows_hold a_law_rows_hold d_law_rows_hold
  b_law_rows_hold : Binds K d_law_rows_hold p_law_rows_hold []
  g_law_rows_hold : mg "_law_rows_hold" = some (.ref a_law_rows_hold)
  a_law_shapes_hold : Addr
  d_law_shapes_hold : FuncData
  f_law_shapes_hold : Fun K "_law_shapes_hold" "_law_shapes_hold" s_law_shapes_hold a_law_shapes_hold d_law_shapes_hold
  b_law_shapes_hold : Binds K d_law_shapes_hold p_law_shapes_hold []
  g_law_shapes_hold : mg "_law_shapes_hold" = some (.ref a_law_shapes_hold)
  a_law : Addr
  d_law : FuncData
  f_law : Fun K "law" "law" s_law a_law d_law
  b_law : Binds K d_law p_law []
  g_law : mg "law" = some (.ref a_law)
  kb_fraction_bottom_top : KBinds K d_fraction p_fraction ["bottom", "top"] kg_fraction_bottom_top kg_fraction_bottom_top
  kb_less_other_one : KBinds K d_less p_less ["other", "one"] kg_less_other_one kg_less_other_one
  kb_added_other_one : KBinds K d_added p_added ["other", "one"] kg_added_other_one kg_added_other_one
  kb_multiplied_other_one : KBinds K d_multiplied p_multiplied ["other", "one"] kg_multiplied_other_one kg_multiplied_other_one
  kb_divided_other_one : KBinds K d_divided p_divided ["other", "one"] kg_divided_other_one kg_divided_other_one
  kb_compared_other_one : KBinds K d_compared p_compared ["other", "one"] kg_compared_other_one kg_compared_other_one
  kb_product_of_fractions : KBinds K d_product_of p_product_of ["fractions"] kg_product_of_fractions kg_product_of_fractions
  kb_sum_of_fractions : KBinds K d_sum_of p_sum_of ["fractions"] kg_sum_of_fractions kg_sum_of_fractions
  z_abs : mg "abs" = none
  z_int : mg "int" = none
  z_len : mg "len" = none
  z_isinstance : mg "isinstance" = none
  z_tuple : mg "tuple" = none
  z_range : mg "range" = none
  z_bool : mg "bool" = none
  z_str : mg "str" = none
  z_max : mg "max" = none
  g_gcd : mg "gcd" = some (.builtin "math.gcd")
  q_NOUGHT : Addr
  g_NOUGHT : mg "NOUGHT" = some (.ref q_NOUGHT)
  t_NOUGHT : ∀ H : Hp, Tp K H q_NOUGHT [.int 0, .int 1]
  q_ONE : Addr
  g_ONE : mg "ONE" = some (.ref q_ONE)
  t_ONE : ∀ H : Hp, Tp K H q_ONE [.int 1, .int 1]
end Al

set_option linter.all false
set_option maxHeartbeats 4000000
namespace Al
/-! ### fractions in lowest terms -/
def lo (a b : Int) : Int × Int := if b < 0 then (a.fdiv (-((Nat.gcd a.natAbs b.natAbs : Nat) : Int)), b.fdiv (-((Nat.gcd a.natAbs b.natAbs : Nat) : Int))) else (a.fdiv ((Nat.gcd a.natAbs b.natAbs : Nat) : Int), b.fdiv ((Nat.gcd a.natAbs b.natAbs : Nat) : Int))
theorem lo_neg {a b : Int} (h : b < 0) : lo a b = (a.fdiv (-((Nat.gcd a.natAbs b.natAbs : Nat) : Int)), b.fdiv (-((Nat.gcd a.natAbs b.natAbs : Nat) : Int))) := if_pos h
theorem lo_pos {a b : Int} (h : ¬ b < 0) : lo a b = (a.fdiv ((Nat.gcd a.natAbs b.natAbs : Nat) : Int), b.fdiv ((Nat.gcd a.natAbs b.natAbs : Nat) : Int)) := if_neg h
theorem gcd_pos' {a b : Int} (h : b ≠ 0) : 0 < Nat.gcd a.natAbs b.natAbs := Nat.gcd_pos_of_pos_right _ (by omega)
theorem gcd_le' {a b : Int} (h : b ≠ 0) : Nat.gcd a.natAbs b.natAbs ≤ b.natAbs := Nat.le_of_dvd (by omega) (Nat.gcd_dvd_right _ _)
theorem gcd_lt {a b : Int} {n : Nat} (h : b ≠ 0) (hb : b.natAbs < n) : Nat.gcd a.natAbs b.natAbs < n := Nat.lt_of_le_of_lt (gcd_le' h) hb
/-- by what both are multiplied -/
theorem lo_spec {a b : Int} (h : b ≠ 0) : ∃ s : Int, s ≠ 0 ∧ s.natAbs = Nat.gcd a.natAbs b.natAbs ∧ a = (lo a b).1 * s ∧ b = (lo a b).2 * s ∧ 0 < (lo a b).2 := by
  have hg := gcd_pos' (a := a) h
  have d1 : ((Nat.gcd a.natAbs b.natAbs : Nat) : Int) ∣ a := Int.ofNat_dvd_left.mpr (Nat.gcd_dvd_left _ _)
  have d2 : ((Nat.gcd a.natAbs b.natAbs : Nat) : Int) ∣ b := Int.ofNat_dvd_left.mpr (Nat.gcd_dvd_right _ _)
  generalize hgg : ((Nat.gcd a.natAbs b.natAbs : Nat) : Int) = g at d1 d2
  have g0 : 0 < g := by omega
  obtain ⟨x, rfl⟩ := d1
  obtain ⟨y, rfl⟩ := d2
  by_cases hb : g * y < 0
  · refine ⟨-g, by omega, by omega, ?_, ?_, ?_⟩
    · rw [lo_neg hb, hgg]
      show g * x = (g * x).fdiv (-g) * -g
      rw [show g * x = (-g) * (-x) by rw [Int.neg_mul_neg], Int.mul_fdiv_cancel_left _ (by omega), Int.mul_comm]
    · rw [lo_neg hb, hgg]
      show g * y = (g * y).fdiv (-g) * -g
      rw [show g * y = (-g) * (-y) by rw [Int.neg_mul_neg], Int.mul_fdiv_cancel_left _ (by omega), Int.mul_comm]
    · rw [lo_neg hb, hgg]
      show 0 < (g * y).fdiv (-g)
      rw [show g * y = (-g) * (-y) by rw [Int.neg_mul_neg], Int.mul_fdiv_cancel_left _ (by omega)]
      have : y < 0 := by
        refine Int.lt_of_not_ge fun z => ?_
        have := Int.mul_nonneg (Int.le_of_lt g0) z
        omega
      omega
  · refine ⟨g, by omega, by omega, ?_, ?_, ?_⟩
    · rw [lo_pos hb, hgg]
      show g * x = (g * x).fdiv g * g
      rw [Int.mul_fdiv_cancel_left _ (by omega), Int.mul_comm]
    · rw [lo_pos hb, hgg]
      show g * y = (g * y).fdiv g * g
      rw [Int.mul_fdiv_cancel_left _ (by omega), Int.mul_comm]
    · rw [lo_pos hb, hgg]
      show 0 < (g * y).fdiv g
      rw [Int.mul_fdiv_cancel_left _ (by omega)]
      have h1 : y ≠ 0 := fun z => h (by rw [z, Int.mul_zero])
      have h2 : ¬ y < 0 := fun z => hb (Int.mul_neg_of_pos_of_neg g0 z)
      omega
theorem lo_den {a b : Int} (h : b ≠ 0) : 0 < (lo a b).2 := by obtain ⟨_, _, _, _, _, h⟩ := lo_spec (a := a) h; exact h
theorem lo_eq {a b : Int} (h : b ≠ 0) : (lo a b).1 * b = a * (lo a b).2 := by
  obtain ⟨s, _, _, h1, h2, _⟩ := lo_spec (a := a) h
  generalize lo a b = q at h1 h2
  rw [h1, h2, Int.mul_comm q.2 s, ← Int.mul_assoc]
theorem lo_cop {a b : Int} (h : b ≠ 0) : Nat.gcd (lo a b).1.natAbs (lo a b).2.natAbs = 1 := by
  obtain ⟨s, s0, hs, h1, h2, _⟩ := lo_spec (a := a) h
  generalize lo a b = q at h1 h2
  rw [h1, h2, Int.natAbs_mul, Int.natAbs_mul, Nat.gcd_mul_right] at hs
  have : 0 < s.natAbs := by omega
  have e : 1 * s.natAbs = Nat.gcd q.1.natAbs q.2.natAbs * s.natAbs := by omega
  exact (Nat.eq_of_mul_eq_mul_right this e).symm
theorem lo_le1 {a b : Int} (h : b ≠ 0) : (lo a b).1.natAbs ≤ a.natAbs := by
  obtain ⟨s, s0, _, h1, _, _⟩ := lo_spec (a := a) h
  generalize lo a b = q at h1
  rw [h1, Int.natAbs_mul]
  exact Nat.le_mul_of_pos_right _ (by omega)
theorem lo_le2 {a b : Int} (h : b ≠ 0) : (lo a b).2.natAbs ≤ b.natAbs := by
  obtain ⟨s, s0, _, _, h1, _⟩ := lo_spec (a := a) h
  generalize lo a b = q at h1
  rw [h1, Int.natAbs_mul]
  exact Nat.le_mul_of_pos_right _ (by omega)
/-- lowest terms are one -/
theorem low_unique {p q : Int × Int} (hp : 0 < p.2) (hq : 0 < q.2) (cp : Nat.gcd p.1.natAbs p.2.natAbs = 1) (cq : Nat.gcd q.1.natAbs q.2.natAbs = 1) (h : p.1 * q.2 = q.1 * p.2) : p = q := by
  have e : p.1.natAbs * q.2.natAbs = q.1.natAbs * p.2.natAbs := by rw [← Int.natAbs_mul, ← Int.natAbs_mul, h]
  have d1 : p.2.natAbs ∣ q.2.natAbs := by
    have : p.2.natAbs ∣ p.1.natAbs * q.2.natAbs := ⟨q.1.natAbs, by rw [e, Nat.mul_comm]⟩
    exact Nat.Coprime.dvd_of_dvd_mul_left (Nat.Coprime.symm cp) this
  have d2 : q.2.natAbs ∣ p.2.natAbs := by
    have : q.2.natAbs ∣ q.1.natAbs * p.2.natAbs := ⟨p.1.natAbs, by rw [← e, Nat.mul_comm]⟩
    exact Nat.Coprime.dvd_of_dvd_mul_left (Nat.Coprime.symm cq) this
  have e2 : p.2.natAbs = q.2.natAbs := Nat.dvd_antisymm d1 d2
  have e3 : p.2 = q.2 := by omega
  have e4 : p.1 = q.1 := by
    rw [e3] at h
    exact Int.eq_of_mul_eq_mul_right (by omega) h
  exact Prod.ext e4 e3
theorem lo_congr {a b c d : Int} (hb : b ≠ 0) (hd : d ≠ 0) (h : a * d = c * b) : lo a b = lo c d := by
  refine low_unique (lo_den hb) (lo_den hd) (lo_cop hb) (lo_cop hd) ?_
  have e1 := lo_eq (a := a) hb
  have e2 := lo_eq (a := c) hd
  generalize lo a b = p at *
  generalize lo c d = q at *
  -- p1 b = a p2, q1 d = c q2, a d = c b
  have hbd : b * d ≠ 0 := Int.mul_ne_zero hb hd
  refine Int.eq_of_mul_eq_mul_right hbd ?_
  calc p.1 * q.2 * (b * d) = (p.1 * b) * (q.2 * d) := by ac_rfl
    _ = (a * p.2) * (q.2 * d) := by rw [e1]
    _ = (a * d) * (p.2 * q.2) := by ac_rfl
    _ = (c * b) * (p.2 * q.2) := by rw [h]
    _ = (c * q.2) * (p.2 * b) := by ac_rfl
    _ = (q.1 * d) * (p.2 * b) := by rw [e2]
    _ = q.1 * p.2 * (b * d) := by ac_rfl
theorem lo_self {p : Int × Int} (h : 0 < p.2) (c : Nat.gcd p.1.natAbs p.2.natAbs = 1) : lo p.1 p.2 = p := by
  have h0 : p.2 ≠ 0 := by omega
  exact low_unique (lo_den h0) h (lo_cop h0) c (lo_eq h0)
theorem lo_one (a : Int) : lo a 1 = (a, 1) := lo_self (p := (a, 1)) (by show (0 : Int) < 1; decide) (Nat.gcd_one_right _)
end Al

set_option linter.all false
set_option maxHeartbeats 4000000
set_option exponentiation.threshold 20000
namespace Al
def add2 (p q : Int × Int) : Int × Int := lo (p.1 * q.2 + q.1 * p.2) (p.2 * q.2)
def mul2 (p q : Int × Int) : Int × Int := lo (p.1 * q.1) (p.2 * q.2)
theorem mul_pos0 {a b : Int} (h : 0 < a) (h' : 0 < b) : a * b ≠ 0 := by
  have := Int.mul_pos h h'
  omega
/-- a pair that may be reckoned with -/
def Sz (p : Int × Int) : Prop := 0 < p.2 ∧ p.1.natAbs < 2 ^ 3000 ∧ p.2.natAbs < 2 ^ 3000
def tot (t x : Int × Int) : Int × Int := (t.1 * x.2 + x.1 * t.2, t.2 * x.2)
def prd (t x : Int × Int) : Int × Int := (t.1 * x.1, t.2 * x.2)
theorem add_tot {T q : Int × Int} (h : T.2 ≠ 0) (hq : 0 < q.2) : add2 (lo T.1 T.2) q = lo (tot T q).1 (tot T q).2 := by
  have e := lo_eq (a := T.1) h
  have d := lo_den (a := T.1) h
  show lo ((lo T.1 T.2).1 * q.2 + q.1 * (lo T.1 T.2).2) ((lo T.1 T.2).2 * q.2) = lo (T.1 * q.2 + q.1 * T.2) (T.2 * q.2)
  generalize lo T.1 T.2 = p at *
  refine lo_congr (mul_pos0 d hq) (Int.mul_ne_zero h (by omega)) ?_
  grind
theorem mul_prd {T q : Int × Int} (h : T.2 ≠ 0) (hq : 0 < q.2) : mul2 (lo T.1 T.2) q = lo (prd T q).1 (prd T q).2 := by
  have e := lo_eq (a := T.1) h
  have d := lo_den (a := T.1) h
  show lo ((lo T.1 T.2).1 * q.1) ((lo T.1 T.2).2 * q.2) = lo (T.1 * q.1) (T.2 * q.2)
  generalize lo T.1 T.2 = p at *
  refine lo_congr (mul_pos0 d hq) (Int.mul_ne_zero h (by omega)) ?_
  grind
/-- a row of pairs with bounds -/
inductive Wt : List (Int × Int) → Nat → Prop
  | nil : Wt [] 0
  | snoc {qs : List (Int × Int)} {n k : Nat} {q : Int × Int} : Wt qs n → 0 < q.2 → q.1.natAbs < 2 ^ k → q.2.natAbs < 2 ^ k → Wt (qs ++ [q]) (n + k + 1)
theorem Wt.take {qs : List (Int × Int)} {n : Nat} (h : Wt qs n) : ∀ i, ∃ m, m ≤ n ∧ Wt (qs.take i) m := by
  induction h with
  | nil => intro i; exact ⟨0, Nat.le_refl _, by rw [List.take_nil]; exact .nil⟩
  | @snoc qs n k q h a b c ih =>
    intro i
    by_cases hi : i ≤ qs.length
    · obtain ⟨m, h1, h2⟩ := ih i
      refine ⟨m, by omega, ?_⟩
      rw [List.take_append_of_le_length hi]
      exact h2
    · refine ⟨_, Nat.le_refl _, ?_⟩
      rw [List.take_of_length_le (by rw [List.length_append, List.length_singleton]; omega)]
      exact .snoc h a b c
theorem Wt.mem {qs : List (Int × Int)} {n : Nat} (h : Wt qs n) (hn : n ≤ 3000) : ∀ q ∈ qs, Sz q := by
  induction h with
  | nil => intro q hq; cases hq
  | @snoc qs n k q h a b c ih =>
    intro y hy
    rcases List.mem_append.mp hy with hy | hy
    · exact ih (by omega) y hy
    · cases List.mem_singleton.mp hy
      have e : (2 : Nat) ^ k ≤ 2 ^ 3000 := Nat.pow_le_pow_right (by decide) (by omega)
      exact ⟨a, by omega, by omega⟩
theorem bnd_mul {x y : Int} {a b c : Nat} (h : x.natAbs < 2 ^ a) (h' : y.natAbs < 2 ^ b) (e : a + b ≤ c) : (x * y).natAbs < 2 ^ c := by
  rw [Int.natAbs_mul]
  refine Nat.lt_of_lt_of_le (Nat.mul_lt_mul'' h h') ?_
  rw [← Nat.pow_add]
  exact Nat.pow_le_pow_right (by decide) e
theorem bnd_add {x y : Int} {a : Nat} (h : x.natAbs < 2 ^ a) (h' : y.natAbs < 2 ^ a) : (x + y).natAbs < 2 ^ (a + 1) := by
  have : (2 : Nat) ^ (a + 1) = 2 ^ a * 2 := by rw [Nat.pow_succ]
  omega
theorem Wt.tot {qs : List (Int × Int)} {n : Nat} (h : Wt qs n) : 0 < (qs.foldl tot (0, 1)).2 ∧ (qs.foldl tot (0, 1)).1.natAbs < 2 ^ (n + 1) ∧ (qs.foldl tot (0, 1)).2.natAbs < 2 ^ (n + 1) ∧ qs.foldl add2 (0, 1) = lo (qs.foldl tot (0, 1)).1 (qs.foldl tot (0, 1)).2 := by
  induction h with
  | nil => exact ⟨by decide, by decide, by decide, by decide⟩
  | @snoc qs n k q h a b c ih =>
    obtain ⟨h1, h2, h3, h4⟩ := ih
    rw [List.foldl_append, List.foldl_append]
    show 0 < (Al.tot (qs.foldl Al.tot (0, 1)) q).2 ∧ _ ∧ _ ∧ add2 (qs.foldl add2 (0, 1)) q = _
    rw [h4]
    generalize qs.foldl Al.tot (0, 1) = T at *
    refine ⟨Int.mul_pos h1 a, ?_, ?_, add_tot (by omega) a⟩
    · show (T.1 * q.2 + q.1 * T.2).natAbs < _
      exact bnd_add (a := n + k + 1) (bnd_mul h2 c (by omega)) (bnd_mul b h3 (by omega))
    · exact bnd_mul h3 c (by omega)
theorem Wt.prd {qs : List (Int × Int)} {n : Nat} (h : Wt qs n) : 0 < (qs.foldl prd (1, 1)).2 ∧ (qs.foldl prd (1, 1)).1.natAbs < 2 ^ (n + 1) ∧ (qs.foldl prd (1, 1)).2.natAbs < 2 ^ (n + 1) ∧ qs.foldl mul2 (1, 1) = lo (qs.foldl prd (1, 1)).1 (qs.foldl prd (1, 1)).2 := by
  induction h with
  | nil => exact ⟨by decide, by decide, by decide, by decide⟩
  | @snoc qs n k q h a b c ih =>
    obtain ⟨h1, h2, h3, h4⟩ := ih
    rw [List.foldl_append, List.foldl_append]
    show 0 < (Al.prd (qs.foldl Al.prd (1, 1)) q).2 ∧ _ ∧ _ ∧ mul2 (qs.foldl mul2 (1, 1)) q = _
    rw [h4]
    generalize qs.foldl Al.prd (1, 1) = T at *
    refine ⟨Int.mul_pos h1 a, ?_, ?_, mul_prd (by omega) a⟩
    · exact bnd_mul h2 b (by omega)
    · exact bnd_mul h3 c (by omega)
theorem sz_lo {a b : Int} {m : Nat} (h : 0 < b) (h1 : a.natAbs < 2 ^ m) (h2 : b.natAbs < 2 ^ m) (hm : m ≤ 3000) : Sz (lo a b) := by
  have e : (2 : Nat) ^ m ≤ 2 ^ 3000 := Nat.pow_le_pow_right (by decide) hm
  have l1 := lo_le1 (a := a) (b := b) (by omega)
  have l2 := lo_le2 (a := a) (b := b) (by omega)
  exact ⟨lo_den (by omega), by omega, by omega⟩
theorem Wt.szA {qs : List (Int × Int)} {n : Nat} (h : Wt qs n) (hn : n < 3000) : ∀ i ≤ qs.length, Sz ((qs.take i).foldl add2 (0, 1)) := fun i _ => by
  obtain ⟨m, hm, w⟩ := h.take i
  obtain ⟨h1, h2, h3, h4⟩ := w.tot
  rw [h4]
  exact sz_lo h1 h2 h3 (by omega)
theorem Wt.szM {qs : List (Int × Int)} {n : Nat} (h : Wt qs n) (hn : n < 3000) : ∀ i ≤ qs.length, Sz ((qs.take i).foldl mul2 (1, 1)) := fun i _ => by
  obtain ⟨m, hm, w⟩ := h.take i
  obtain ⟨h1, h2, h3, h4⟩ := w.prd
  rw [h4]
  exact sz_lo h1 h2 h3 (by omega)
/-! ### known by their shape -/
theorem lo_is {a b : Int} {p : Int × Int} (hb : b ≠ 0) (hp : 0 < p.2) (c : Nat.gcd p.1.natAbs p.2.natAbs = 1) (h : a * p.2 = p.1 * b) : lo a b = p := by
  rw [lo_congr hb (by omega) h]
  exact lo_self hp c
theorem gcd_next (i : Nat) : Nat.gcd ((i : Int)).natAbs ((i : Int) + 1).natAbs = 1 := by
  have e1 : ((i : Int)).natAbs = i := Int.natAbs_natCast i
  have e2 : ((i : Int) + 1).natAbs = i + 1 := by omega
  rw [e1, e2, Nat.gcd_self_add_right, Nat.gcd_one_right]
def qStep (i : Nat) : Int × Int := (1, (1 + (i : Int)) * (1 + (i : Int) + 1))
def qRise (i : Nat) : Int × Int := (1 + (i : Int) + 1, 1 + (i : Int))
def qTurn (i : Nat) : Int × Int := (1 + (i : Int), 1 + (i : Int) + 1)
theorem range_snoc {α β : Type} (f : β → α → β) (e : β) (g : Nat → α) (n : Nat) : (((List.range (n + 1)).map g).foldl f e) = f (((List.range n).map g).foldl f e) (g n) := by
  rw [List.range_succ, List.map_append, List.foldl_append]
  rfl
theorem sum_steps : ∀ n : Nat, ((List.range n).map qStep).foldl add2 (0, 1) = ((n : Int), (n : Int) + 1)
  | 0 => rfl
  | n + 1 => by
    rw [range_snoc, sum_steps n]
    refine lo_is (mul_pos0 (by omega) (Int.mul_pos (by omega) (by omega))) (by show (0 : Int) < ((n + 1 : Nat) : Int) + 1; omega) (gcd_next (n + 1)) ?_
    show ((n : Int) * ((1 + (n : Int)) * (1 + (n : Int) + 1)) + 1 * ((n : Int) + 1)) * (((n + 1 : Nat) : Int) + 1) = ((n + 1 : Nat) : Int) * (((n : Int) + 1) * ((1 + (n : Int)) * (1 + (n : Int) + 1)))
    rw [Int.natCast_add]
    grind
theorem mul_rises : ∀ n : Nat, ((List.range n).map qRise).foldl mul2 (1, 1) = ((n : Int) + 1, 1)
  | 0 => rfl
  | n + 1 => by
    rw [range_snoc, mul_rises n]
    refine lo_is (mul_pos0 (by show (0 : Int) < 1; decide) (by show (0 : Int) < 1 + (n : Int); omega)) (by show (0 : Int) < 1; decide) (Nat.gcd_one_right _) ?_
    show ((n : Int) + 1) * (1 + (n : Int) + 1) * 1 = (((n + 1 : Nat) : Int) + 1) * (1 * (1 + (n : Int)))
    rw [Int.natCast_add]
    grind
theorem mul_turns : ∀ n : Nat, ((List.range n).map qTurn).foldl mul2 (1, 1) = (1, (n : Int) + 1)
  | 0 => rfl
  | n + 1 => by
    rw [range_snoc, mul_turns n]
    refine lo_is (mul_pos0 (by show (0 : Int) < (n : Int) + 1; omega) (by show (0 : Int) < 1 + (n : Int) + 1; omega)) (by show (0 : Int) < ((n + 1 : Nat) : Int) + 1; omega) (Nat.gcd_one_left _) ?_
    show 1 * (1 + (n : Int)) * (((n + 1 : Nat) : Int) + 1) = 1 * (((n : Int) + 1) * (1 + (n : Int) + 1))
    rw [Int.natCast_add]
    grind
theorem take_range {α : Type} (g : Nat → α) (n i : Nat) (h : i ≤ n) : ((List.range n).map g).take i = (List.range i).map g := by
  rw [← List.map_take, List.take_range, Nat.min_eq_left h]
end Al

set_option Elab.async false
set_option linter.all false
set_option maxRecDepth 100000
set_option maxHeartbeats 4000000
set_option exponentiation.threshold 20000
open PySem PySem.Spec PyProof.Rows L2 Al
local macro_rules | `(tactic| walk_at "tk") => `(tactic| first
  | assumption
  | exact TK.of (by assumption)
  | exact Nw.tk (by assumption)
  | exact Mu.tk (by assumption) (by assumption))
local macro_rules | `(tactic| walk_at "tp") => `(tactic| first
  | assumption
  | exact Tp.new (by assumption)
  | exact Tp.from (by walk_at "tk") (by walk_at "tp"))
local macro_rules | `(tactic| walk_at "fr") => `(tactic| first
  | assumption
  | exact Fr.from (by walk_at "tk") (by walk_at "fr"))
local macro_rules | `(tactic| walk_at "ls") => `(tactic| first
  | assumption
  | exact Nw.at (by assumption)
  | exact Mu.at (by assumption)
  | exact Same.from (by assumption) (by walk_at "ls")
  | exact Same.from (Nw.same (by assumption)) (by walk_at "ls"))
local macro_rules | `(tactic| walk_at "same") => `(tactic| first
  | exact Same.refl _
  | assumption
  | (refine' Same.trans ?_ (by assumption); walk_at "same")
  | (refine' Same.trans ?_ (Nw.same (by assumption)); walk_at "same"))
local macro_rules | `(tactic| walk_at "s0") => `(tactic| first
  | (with_reducible refine' r_seq ?_)
  | (with_reducible refine' r_set ?_)
  | (with_reducible refine' r_ret ?_)
  | (with_reducible refine' r_next ?_)
  | (with_reducible refine' r_forL ?_)
  | (with_reducible refine' r_forR1 ?_)
  | (with_reducible refine' r_forR2 ?_)
  | (with_reducible refine' r_lcL ?_)
  | (with_reducible refine' r_lcR1 ?_)
  | (with_reducible refine' r_lcR2 ?_)
  | (with_reducible refine' r_yesT ?_)
  | (with_reducible refine' r_drop ?_)
  | (with_reducible refine' r_par ?_)
  | (with_reducible refine' r_two ?_)
  | (with_reducible refine' r_asg ?_)
  | ((with_reducible refine' r_var ?h ?q); (case h => rfl))
  | (with_reducible refine' r_c ?_)
  | (with_reducible refine' r_op ?_)
  | (with_reducible refine' r_un ?_)
  | (with_reducible refine' r_I0 ?_)
  | (with_reducible refine' r_I ?_ ?_)
  | (with_reducible refine' r_U ?_)
  | (with_reducible refine' r_nil ?_)
  | (with_reducible refine' r_cons ?_)
  | (with_reducible refine' r_tup ?_)
  | (with_reducible refine' r_lst ?_)
  | (with_reducible refine' r_test ?_)
  | (with_reducible refine' r_tB ?_)
  | (with_reducible refine' r_tr ?_)
  | (with_reducible refine' r_and ?_)
  | (with_reducible refine' r_or ?_)
  | (with_reducible refine' r_not ?_)
  | (with_reducible refine' r_ifE ?_)
  | (with_reducible refine' r_CB ?_)
  | (with_reducible refine' r_call ?_)
  | (with_reducible refine' r_callK ?_)
  | (with_reducible refine' r_gcd ?_)
  | (with_reducible refine' r_int ?_)
  | (with_reducible refine' r_intB ?_)
  | (with_reducible refine' r_abs ?_)
  | (with_reducible refine' r_max2 ?_)
  | (with_reducible refine' r_min2 ?_)
  | (with_reducible refine' r_isNo ?_)
  | (with_reducible refine' r_notNo ?_)
  | (with_reducible refine' r_isBl ?_)
  | (with_reducible refine' r_isi_it ?_)
  | (with_reducible refine' r_isi_ib ?_)
  | (with_reducible refine' r_isi_ii ?_)
  | (with_reducible refine' r_isi_bt ?_)
  | (with_reducible refine' r_isi_bb ?_)
  | (with_reducible refine' r_isi_nt ?_)
  | (with_reducible refine' r_isi_st ?_)
  | (with_reducible refine' r_isi_sb ?_)
  | (with_reducible refine' r_isi_si ?_)
  | (with_reducible refine' r_isi_ss ?_)
  | ((with_reducible refine' r_isi_tt ?g ?q); (case g => walk_at "tp"))
  | ((with_reducible refine' r_lenT ?g ?q); (case g => exact Tp.sq (by walk_at "tp")))
  | ((with_reducible refine' r_lenL ?g ?q); (case g => exact SqL.of (by walk_at "ls")))
  | (with_reducible refine' r_BMa ?_)
  | (with_reducible refine' r_BM0 ?_)
  | ((with_reducible refine' r_lm ?g ?q); (case g => exact SqL.of (by walk_at "ls")))
  | (with_reducible refine' r_gSub ?_)
  | (with_reducible refine' r_gCons ?_)
  | (with_reducible refine' r_gNil ?_)
  | (with_reducible refine' r_gName ?_)
  | ((with_reducible refine' r_gTup ?g ?h ?q); (case g => exact Tp.sq (by walk_at "tp")); (case h => rfl))
  | (with_reducible refine' r_ch ?_)
  | (with_reducible refine' r_andV ?_)
  | (with_reducible refine' r_orV ?_)
  | (with_reducible refine' r_notV ?_)
  | (with_reducible refine' r_sl ?_)
  | (with_reducible refine' r_noPart ?_)
  | (with_reducible refine' r_part ?_)
  | (with_reducible refine' r_pa ?_)
  | (with_reducible refine' r_tRev ?_)
  | (with_reducible refine' r_eqI ?_)
  | (with_reducible refine' r_neI ?_)
  | (with_reducible refine' r_eq rfl ?_)
  | (with_reducible refine' r_ne rfl ?_)
  | (with_reducible refine' iteT ?_)
  | (with_reducible refine' iteF ?_)
  | (with_reducible refine' r_nF ?_)
  | (with_reducible refine' r_nT ?_)
  | ((with_reducible refine' r_ixT ?g ?h ?q); (case g => exact Tp.sq (by walk_at "tp")); (case h => rfl))
  | ((with_reducible refine' r_ixL ?g ?h ?q); (case g => exact SqL.of (by walk_at "ls")); (case h => rfl)))
local macro_rules | `(tactic| walk_at "s") => `(tactic| first
  | walk_at "s0"
  | (with_reducible refine' r_if ?_))
local macro_rules | `(tactic| walk_at "g") => `(tactic| repeat walk_at "s0")
local macro_rules | `(tactic| walk_at "go") => `(tactic| repeat walk_at "s")
local macro_rules | `(tactic| walk_at "go0") => `(tactic| ((try dsimp only [cxOf]); repeat walk_at "s"))
local macro_rules | `(tactic| walk_at "im") => `(tactic| first
  | exact mulC ⟨by decide, by decide⟩
  | exact mulC' ⟨by decide, by decide⟩
  | exact mulB (by assumption) (by assumption)
  | (show (0 : Int) < _; decide)
  | exact powC (by decide) (by decide) (by decide)
  | exact divC (by decide) (by decide +kernel) _)

namespace Al
section
variable {P : Program} {w : World} {K : PySem.W.Frag} {mg : Str → Option Value} {base : Heap}
/-- handed back: a pair -/
def RetFr (K : PySem.W.Frag) (H : Hp) (Q : VK) (p : Int × Int) : Prop := ∀ v H', Same H H' → Fr K H' v p → Q v H'
/-- a pair of ints in H, its sizes -/
def FrB (K : PySem.W.Frag) (H : Hp) (v : V) (p : Int × Int) (n : Nat) : Prop := Fr K H v p ∧ p.1.natAbs < 2 ^ n ∧ p.2.natAbs < 2 ^ n
def sp_lowest (K : PySem.W.Frag) : Sp := fun vs H Q _ => ∃ a b : Int, vs = [.int a, .int b] ∧ b ≠ 0 ∧ a.natAbs < 2 ^ 8000 ∧ b.natAbs < 2 ^ 8000 ∧ RetFr K H Q (lo a b)
theorem c_lowest {a b : Int} {H : Hp} {Q : VK} {E : XK} {vs : List V} (e : vs = [.int a, .int b]) (h0 : b ≠ 0) (h1 : a.natAbs < 2 ^ 8000) (h2 : b.natAbs < 2 ^ 8000) (q : RetFr K H Q (lo a b)) : sp_lowest K vs H Q E := ⟨a, b, e, h0, h1, h2, q⟩
theorem ok_lowest (T : Txt K mg) : FnOk P w K mg base CX0 1 T.a_lowest T.d_lowest p_lowest (sp_lowest K) := by
  refine T.f_lowest.ok sc_lowest (fun vs H Q E h => ?_) (fun cdv A outer s H vs Q E hr h => ?_)
  · obtain ⟨a, b, rfl, _⟩ := h; rfl
  · obtain ⟨a, b, rfl, hb, sa, sb, q⟩ := h
    refine ⟨_, (pss_cons (ps_set (i := 2) sc_lowest.nd rfl (.inl rfl) (pe_callBfun cr_gcd (by rfl) T.g_gcd (pa_cons (pv 0) (pa_cons (pv 1) pa_nil))))
      (pss_cons (ps_if (pt_cmpR op_lt (pv 1) pe_int (nomark _))
        (pss_one (ps_set (i := 2) sc_lowest.nd rfl (.inl rfl) (pe_un un_neg (pv 2)))) pss_nil)
      (pss_one (ps_ret (pe_tup (pa_cons (pe_op op_fdivZ (pv 0) (pv 2)) (pa_cons (pe_op op_fdivZ (pv 1) (pv 2)) pa_nil))))))), ?_⟩
    have g1 := gcd_pos' (a := a) hb
    have g2 := gcd_lt (a := a) hb sb
    walk_at "go"
    refine r_dec (fun h => ?_) (fun h => ?_)
    · walk_at "go"
      · refine r_new (Nat.le_of_ble_eq_true rfl) fun p H2 np => ?_
        refine q _ _ np.same ⟨p, rfl, ?_⟩
        rw [lo_neg h]
        exact Tp.new np
      all_goals exact ⟨by omega, by rw [Int.natAbs_neg, Int.natAbs_natCast]; exact g2⟩
    · walk_at "go"
      · refine r_new (Nat.le_of_ble_eq_true rfl) fun p H2 np => ?_
        refine q _ _ np.same ⟨p, rfl, ?_⟩
        rw [lo_pos h]
        exact Tp.new np
      all_goals exact ⟨by omega, by rw [Int.natAbs_natCast]; exact g2⟩
theorem ok_fraction (T : Txt K mg) : FnOk P w K mg base CX0 2 T.a_fraction T.d_fraction p_fraction (sp_lowest K) := by
  have G_lowest : FnOk P w K mg base CX0 1 T.a_lowest T.d_lowest p_lowest (sp_lowest K) := ok_lowest T
  refine T.f_fraction.ok sc_fraction (fun vs H Q E h => ?_) (fun cdv A outer s H vs Q E hr h => ?_)
  · obtain ⟨a, b, rfl, _⟩ := h; rfl
  · obtain ⟨a, b, rfl, hb, sa, sb, q⟩ := h
    refine ⟨_, (pss_one (ps_ret (pe_call G_lowest (hr.mono (by omega)) (by rfl) T.g_lowest T.f_lowest.kp T.b_lowest .nil pass0 (pa_cons (pv 0) (pa_cons (pv 1) pa_nil))))), ?_⟩
    walk_at "go"
    exact c_lowest rfl hb sa sb q
/-- two pairs in, one out -/
def spF2 (K : PySem.W.Frag) (C : Int × Int → Int × Int → Prop) (f : Int × Int → Int × Int → Int × Int) : Sp := fun vs H Q _ => ∃ x y p q, vs = [x, y] ∧ FrB K H x p 3000 ∧ FrB K H y q 3000 ∧ 0 < p.2 ∧ 0 < q.2 ∧ C p q ∧ RetFr K H Q (f p q)
theorem c_F2 {C : Int × Int → Int × Int → Prop} {f : Int × Int → Int × Int → Int × Int} {x y : V} {p q : Int × Int} {H : Hp} {Q : VK} {E : XK} {vs : List V} (e : vs = [x, y]) (h1 : FrB K H x p 3000) (h2 : FrB K H y q 3000) (h3 : 0 < p.2) (h4 : 0 < q.2) (hc : C p q) (k : RetFr K H Q (f p q)) : spF2 K C f vs H Q E :=
  ⟨x, y, p, q, e, h1, h2, h3, h4, hc, k⟩
def div2 (p q : Int × Int) : Int × Int := lo (p.1 * q.2) (p.2 * q.1)
theorem ok_added (T : Txt K mg) : FnOk P w K mg base CX0 2 T.a_added T.d_added p_added (spF2 K (fun _ _ => True) add2) := by
  have G_lowest : FnOk P w K mg base CX0 1 T.a_lowest T.d_lowest p_lowest (sp_lowest K) := ok_lowest T
  refine T.f_added.ok sc_added (fun vs H Q E h => ?_) (fun cdv A outer s H vs Q E hr h => ?_)
  · obtain ⟨x, y, p, q, rfl, _⟩ := h; rfl
  · obtain ⟨x, y, ⟨p1, p2⟩, ⟨q1, q2⟩, rfl, ⟨⟨a, rfl, ha⟩, a1, a2⟩, ⟨⟨b, rfl, hb⟩, b1, b2⟩, h1, h2, _, k⟩ := h
    refine ⟨_, (pss_cons (ps_if (PW.pt (pw_and (pt_cmpR op_eq (pe_ix (ix_sqK K) (pv 0) pe_int (fun _ _ => rfl)) pe_int (nomark _)) (pw_and1 (pt_cmpR op_eq (pe_ix (ix_sqK K) (pv 1) pe_int (fun _ _ => rfl)) pe_int (nomark _)))))
        (pss_one (ps_ret (pe_tup (pa_cons (pe_op op_add (pe_ix (ix_sqK K) (pv 0) pe_int (fun _ _ => rfl)) (pe_ix (ix_sqK K) (pv 1) pe_int (fun _ _ => rfl))) (pa_cons pe_int pa_nil))))) pss_nil)
      (pss_one (ps_ret (pe_call G_lowest (hr.mono (by omega)) (by rfl) T.g_lowest T.f_lowest.kp T.b_lowest .nil pass0 (pa_cons (pe_op op_add (pe_op op_mulZ (pe_ix (ix_sqK K) (pv 0) pe_int (fun _ _ => rfl)) (pe_ix (ix_sqK K) (pv 1) pe_int (fun _ _ => rfl))) (pe_op op_mulZ (pe_ix (ix_sqK K) (pv 1) pe_int (fun _ _ => rfl)) (pe_ix (ix_sqK K) (pv 0) pe_int (fun _ _ => rfl)))) (pa_cons (pe_op op_mulZ (pe_ix (ix_sqK K) (pv 0) pe_int (fun _ _ => rfl)) (pe_ix (ix_sqK K) (pv 1) pe_int (fun _ _ => rfl))) pa_nil)))))), ?_⟩
    dsimp only at *
    walk_at "go0"
    refine r_dec (fun e1 => ?_) (fun e1 => ?_)
    · walk_at "go"
      refine r_dec (fun e2 => ?_) (fun e2 => ?_)
      · walk_at "go"
        refine r_new (Nat.le_of_ble_eq_true rfl) fun p H2 np => ?_
        subst e1
        subst e2
        have e : add2 (p1, 1) (q1, 1) = (p1 + q1, 1) := by
          show lo (p1 * 1 + q1 * 1) (1 * 1) = _
          rw [Int.mul_one, Int.mul_one, Int.mul_one, lo_one]
        rw [e] at k
        exact k _ _ np.same ⟨p, rfl, Tp.new np⟩
      · walk_at "go"
        · exact c_lowest rfl (mul_pos0 h1 h2) (bs8 (bm a1 b2) (bm b1 a2)) (bm8 a2 b2) k
        all_goals walk_at "im"
    · walk_at "go"
      · exact c_lowest rfl (mul_pos0 h1 h2) (bs8 (bm a1 b2) (bm b1 a2)) (bm8 a2 b2) k
      all_goals walk_at "im"
theorem ok_multiplied (T : Txt K mg) : FnOk P w K mg base CX0 2 T.a_multiplied T.d_multiplied p_multiplied (spF2 K (fun _ _ => True) mul2) := by
  have G_lowest : FnOk P w K mg base CX0 1 T.a_lowest T.d_lowest p_lowest (sp_lowest K) := ok_lowest T
  refine T.f_multiplied.ok sc_multiplied (fun vs H Q E h => ?_) (fun cdv A outer s H vs Q E hr h => ?_)
  · obtain ⟨x, y, p, q, rfl, _⟩ := h; rfl
  · obtain ⟨x, y, ⟨p1, p2⟩, ⟨q1, q2⟩, rfl, ⟨⟨a, rfl, ha⟩, a1, a2⟩, ⟨⟨b, rfl, hb⟩, b1, b2⟩, h1, h2, _, k⟩ := h
    refine ⟨_, (pss_cons (ps_if (PW.pt (pw_and (pt_cmpR op_eq (pe_ix (ix_sqK K) (pv 0) pe_int (fun _ _ => rfl)) pe_int (nomark _)) (pw_and1 (pt_cmpR op_eq (pe_ix (ix_sqK K) (pv 1) pe_int (fun _ _ => rfl)) pe_int (nomark _)))))
        (pss_one (ps_ret (pe_tup (pa_cons (pe_op op_mulZ (pe_ix (ix_sqK K) (pv 0) pe_int (fun _ _ => rfl)) (pe_ix (ix_sqK K) (pv 1) pe_int (fun _ _ => rfl))) (pa_cons pe_int pa_nil))))) pss_nil)
      (pss_one (ps_ret (pe_call G_lowest (hr.mono (by omega)) (by rfl) T.g_lowest T.f_lowest.kp T.b_lowest .nil pass0 (pa_cons (pe_op op_mulZ (pe_ix (ix_sqK K) (pv 0) pe_int (fun _ _ => rfl)) (pe_ix (ix_sqK K) (pv 1) pe_int (fun _ _ => rfl))) (pa_cons (pe_op op_mulZ (pe_ix (ix_sqK K) (pv 0) pe_int (fun _ _ => rfl)) (pe_ix (ix_sqK K) (pv 1) pe_int (fun _ _ => rfl))) pa_nil)))))), ?_⟩
    dsimp only at *
    walk_at "go0"
    refine r_dec (fun e1 => ?_) (fun e1 => ?_)
    · walk_at "go"
      refine r_dec (fun e2 => ?_) (fun e2 => ?_)
      · walk_at "go"
        · refine r_new (Nat.le_of_ble_eq_true rfl) fun p H2 np => ?_
          subst e1
          subst e2
          have e : mul2 (p1, 1) (q1, 1) = (p1 * q1, 1) := by
            show lo (p1 * q1) (1 * 1) = _
            rw [Int.mul_one, lo_one]
          rw [e] at k
          exact k _ _ np.same ⟨p, rfl, Tp.new np⟩
        all_goals walk_at "im"
      · walk_at "go"
        · exact c_lowest rfl (mul_pos0 h1 h2) (bm8 a1 b1) (bm8 a2 b2) k
        all_goals walk_at "im"
    · walk_at "go"
      · exact c_lowest rfl (mul_pos0 h1 h2) (bm8 a1 b1) (bm8 a2 b2) k
      all_goals walk_at "im"
theorem ok_divided (T : Txt K mg) : FnOk P w K mg base CX0 2 T.a_divided T.d_divided p_divided (spF2 K (fun _ q => q.1 ≠ 0) div2) := by
  have G_lowest : FnOk P w K mg base CX0 1 T.a_lowest T.d_lowest p_lowest (sp_lowest K) := ok_lowest T
  refine T.f_divided.ok sc_divided (fun vs H Q E h => ?_) (fun cdv A outer s H vs Q E hr h => ?_)
  · obtain ⟨x, y, p, q, rfl, _⟩ := h; rfl
  · obtain ⟨x, y, ⟨p1, p2⟩, ⟨q1, q2⟩, rfl, ⟨⟨a, rfl, ha⟩, a1, a2⟩, ⟨⟨b, rfl, hb⟩, b1, b2⟩, h1, h2, h3, k⟩ := h
    refine ⟨_, (pss_one (ps_ret (pe_call G_lowest (hr.mono (by omega)) (by rfl) T.g_lowest T.f_lowest.kp T.b_lowest .nil pass0 (pa_cons (pe_op op_mulZ (pe_ix (ix_sqK K) (pv 0) pe_int (fun _ _ => rfl)) (pe_ix (ix_sqK K) (pv 1) pe_int (fun _ _ => rfl))) (pa_cons (pe_op op_mulZ (pe_ix (ix_sqK K) (pv 0) pe_int (fun _ _ => rfl)) (pe_ix (ix_sqK K) (pv 1) pe_int (fun _ _ => rfl))) pa_nil))))), ?_⟩
    dsimp only at *
    walk_at "go0"
    · exact c_lowest rfl (Int.mul_ne_zero (by omega) h3) (bm8 a1 b2) (bm8 a2 b1) k
    all_goals walk_at "im"
/-- one pair in, one out -/
def spF1 (K : PySem.W.Frag) (f : Int × Int → Int × Int) : Sp := fun vs H Q _ => ∃ x p, vs = [x] ∧ Fr K H x p ∧ RetFr K H Q (f p)
def neg1 (p : Int × Int) : Int × Int := (-p.1, p.2)
theorem ok_opposite (T : Txt K mg) : FnOk P w K mg base CX0 1 T.a_opposite T.d_opposite p_opposite (spF1 K neg1) := by
  refine T.f_opposite.ok sc_opposite (fun vs H Q E h => ?_) (fun cdv A outer s H vs Q E hr h => ?_)
  · obtain ⟨x, p, rfl, _⟩ := h; rfl
  · obtain ⟨x, ⟨p1, p2⟩, rfl, ⟨a, rfl, ha⟩, k⟩ := h
    refine ⟨_, (pss_one (ps_ret (pe_tup (pa_cons (pe_un un_neg (pe_ix (ix_sqK K) (pv 0) pe_int (fun _ _ => rfl))) (pa_cons (pe_ix (ix_sqK K) (pv 0) pe_int (fun _ _ => rfl)) pa_nil))))), ?_⟩
    dsimp only at *
    walk_at "go0"
    refine r_new (Nat.le_of_ble_eq_true rfl) fun p H2 np => ?_
    exact k _ _ np.same ⟨p, rfl, Tp.new np⟩
def sub2 (p q : Int × Int) : Int × Int := add2 p (neg1 q)
theorem ok_less (T : Txt K mg) : FnOk P w K mg base CX0 3 T.a_less T.d_less p_less (spF2 K (fun _ _ => True) sub2) := by
  have G_added : FnOk P w K mg base CX0 2 T.a_added T.d_added p_added (spF2 K (fun _ _ => True) add2) := ok_added T
  have G_opposite : FnOk P w K mg base CX0 1 T.a_opposite T.d_opposite p_opposite (spF1 K neg1) := ok_opposite T
  refine T.f_less.ok sc_less (fun vs H Q E h => ?_) (fun cdv A outer s H vs Q E hr h => ?_)
  · obtain ⟨x, y, p, q, rfl, _⟩ := h; rfl
  · obtain ⟨x, y, ⟨p1, p2⟩, ⟨q1, q2⟩, rfl, ⟨ha, a1, a2⟩, ⟨hb, b1, b2⟩, h1, h2, _, k⟩ := h
    refine ⟨_, (pss_one (ps_ret (pe_call G_added (hr.mono (by omega)) (by rfl) T.g_added T.f_added.kp T.b_added .nil pass0 (pa_cons (pv 0) (pa_cons (pe_call G_opposite (hr.mono (by omega)) (by rfl) T.g_opposite T.f_opposite.kp T.b_opposite .nil pass0 (pa_cons (pv 1) pa_nil)) pa_nil))))), ?_⟩
    walk_at "go0"
    refine ⟨_, _, rfl, hb, fun v H1 s1 hv => ?_⟩
    walk_at "go"
    refine c_F2 rfl ⟨by walk_at "fr", a1, a2⟩ ⟨hv, ?_, b2⟩ h1 h2 trivial fun v2 H2 s2 hv2 => k _ _ (s1.trans s2) hv2
    show (-q1).natAbs < _
    rw [Int.natAbs_neg]
    exact b1
def sgn2 (p q : Int × Int) : Int := if p.1 * q.2 < q.1 * p.2 then -1 else if q.1 * p.2 < p.1 * q.2 then 1 else 0
def sp_compared (K : PySem.W.Frag) : Sp := fun vs H Q _ => ∃ x y p q, vs = [x, y] ∧ FrB K H x p 3000 ∧ FrB K H y q 3000 ∧ ∀ H', Same H H' → Q (.int (sgn2 p q)) H'
theorem ok_compared (T : Txt K mg) : FnOk P w K mg base CX0 1 T.a_compared T.d_compared p_compared (sp_compared K) := by
  refine T.f_compared.ok sc_compared (fun vs H Q E h => ?_) (fun cdv A outer s H vs Q E hr h => ?_)
  · obtain ⟨x, y, p, q, rfl, _⟩ := h; rfl
  · obtain ⟨x, y, ⟨p1, p2⟩, ⟨q1, q2⟩, rfl, ⟨⟨a, rfl, ha⟩, a1, a2⟩, ⟨⟨b, rfl, hb⟩, b1, b2⟩, k⟩ := h
    refine ⟨_, (pss_cons (ps_par (i := 2) (j := 3) rfl sc_compared.nd rfl rfl (by decide) rfl rfl (pa_cons (pe_op op_mulZ (pe_ix (ix_sqK K) (pv 0) pe_int (fun _ _ => rfl)) (pe_ix (ix_sqK K) (pv 1) pe_int (fun _ _ => rfl))) (pa_cons (pe_op op_mulZ (pe_ix (ix_sqK K) (pv 1) pe_int (fun _ _ => rfl)) (pe_ix (ix_sqK K) (pv 0) pe_int (fun _ _ => rfl))) pa_nil)) (by rfl))
      (pss_cons (ps_if (pt_cmpR op_lt (pv 2) (pv 3) (nomark _))
        (pss_one (ps_ret (pe_un un_neg pe_int))) pss_nil)
      (pss_one (ps_ret (pe_ifExp (pt_cmpR op_gt (pv 2) (pv 3) (nomark _)) pe_int pe_int))))), ?_⟩
    have kk := k H (Same.refl H)
    unfold sgn2 at kk
    dsimp only at *
    walk_at "go0"
    · refine r_dec (fun e1 => ?_) (fun e1 => ?_)
      · walk_at "go"
        rw [if_pos e1] at kk
        exact kk
      · walk_at "go"
        rw [if_neg e1] at kk
        refine r_dec (fun e2 => ?_) (fun e2 => ?_)
        · walk_at "go"
          rw [if_pos e2] at kk
          exact kk
        · walk_at "go"
          rw [if_neg e2] at kk
          exact kk
    all_goals walk_at "im"
end
end Al

set_option Elab.async false
set_option linter.all false
set_option maxRecDepth 100000
set_option maxHeartbeats 4000000
set_option exponentiation.threshold 20000
open PySem PySem.Spec PyProof.Rows L2 Al
namespace Al
section
variable {P : Program} {w : World} {K : PySem.W.Frag} {mg : Str → Option Value} {base : Heap}
/-- a row of pairs -/
def FrL (K : PySem.W.Frag) (H : Hp) (vs : List V) (qs : List (Int × Int)) : Prop := vs.length = qs.length ∧ ∀ (i : Nat) v, vs[i]? = some v → ∃ q, qs[i]? = some q ∧ Fr K H v q
theorem FrL.keep {H H' : Hp} {vs : List V} {qs : List (Int × Int)} (h : FrL K H vs qs) (k : TK H H') : FrL K H' vs qs := ⟨h.1, fun i v e => by
  obtain ⟨q, e1, e2⟩ := h.2 i v e
  exact ⟨q, e1, e2.keep k⟩⟩
def spFold (K : PySem.W.Frag) (f : Int × Int → Int × Int → Int × Int) (e : Int × Int) : Sp := fun vs H Q _ => ∃ a xs qs, vs = [.ref a] ∧ Sq K H a xs ∧ FrL K H xs qs ∧ (∀ i ≤ qs.length, Sz ((qs.take i).foldl f e)) ∧ (∀ q ∈ qs, Sz q) ∧ RetFr K H Q (qs.foldl f e)
theorem fold_next {f : Int × Int → Int × Int → Int × Int} {e q : Int × Int} {qs : List (Int × Int)} {i : Nat} (h : qs[i]? = some q) : (qs.take (i + 1)).foldl f e = f ((qs.take i).foldl f e) q := by
  rw [List.take_add_one, h, List.foldl_append]
  rfl
theorem ok_sum_of (T : Txt K mg) : FnOk P w K mg base CX0 3 T.a_sum_of T.d_sum_of p_sum_of (spFold K add2 (0, 1)) := by
  have G_added : FnOk P w K mg base CX0 2 T.a_added T.d_added p_added (spF2 K (fun _ _ => True) add2) := ok_added T
  refine T.f_sum_of.ok sc_sum_of (fun vs H Q E h => ?_) (fun cdv A outer s H vs Q E hr h => ?_)
  · obtain ⟨a, xs, qs, rfl, _⟩ := h; rfl
  · obtain ⟨a, xs, qs, rfl, hq, hL, hP, hS, k⟩ := h
    refine ⟨_, (pss_cons (ps_set (i := 1) sc_sum_of.nd rfl (.inl rfl) (pe_glob (v := .ref T.q_NOUGHT) rfl T.g_NOUGHT rfl))
      (pss_cons (ps_for PassesOwn.never rfl (pi_seqVK K (pv 0)) (pg_name (i := 2) sc_sum_of.nd rfl (.inl rfl))
        (pss_one (ps_set (i := 1) sc_sum_of.nd rfl (.inl rfl) (pe_call G_added (hr.mono (by omega)) (by rfl) T.g_added T.f_added.kp T.b_added .nil pass0 (pa_cons (pv 1) (pa_cons (pv 2) pa_nil))))))
      (pss_one (ps_ret (pv 1))))), ?_⟩
    walk_at "go0"
    refine l_seq rfl hq (fun i σ' H' => ∃ v y, σ' = [some (.ref a), some v, y] ∧ Same H H' ∧ Fr K H' v ((qs.take i).foldl add2 (0, 1))) ⟨_, _, rfl, Same.refl H, ⟨_, rfl, T.t_NOUGHT H⟩⟩ (fun i σ' H' _ p => ?_) (fun i x σ' H' e p => ?_) fun σ' H' p => ?_
    · obtain ⟨_, _, _, h, _⟩ := p
      exact h
    · obtain ⟨v, y, rfl, hs, hv⟩ := p
      obtain ⟨q, e1, e2⟩ := hL.2 i x e
      have hi : i < qs.length := (List.getElem?_eq_some_iff.mp e1).1
      obtain ⟨z1, z2, z3⟩ := hP i (by omega)
      obtain ⟨y1, y2, y3⟩ := hS q (List.mem_of_getElem? e1)
      walk_at "go"
      refine c_F2 rfl ⟨hv, z2, z3⟩ ⟨e2.keep (TK.of hs), y2, y3⟩ z1 y1 trivial fun v' H2 s2 h2 => ?_
      refine ⟨v', _, rfl, hs.trans s2, ?_⟩
      rw [fold_next e1]
      exact h2
    · obtain ⟨v, y, rfl, hs, hv⟩ := p
      walk_at "go"
      rw [hL.1, List.take_length] at hv
      exact k _ _ hs hv
theorem ok_product_of (T : Txt K mg) : FnOk P w K mg base CX0 3 T.a_product_of T.d_product_of p_product_of (spFold K mul2 (1, 1)) := by
  have G_multiplied : FnOk P w K mg base CX0 2 T.a_multiplied T.d_multiplied p_multiplied (spF2 K (fun _ _ => True) mul2) := ok_multiplied T
  refine T.f_product_of.ok sc_product_of (fun vs H Q E h => ?_) (fun cdv A outer s H vs Q E hr h => ?_)
  · obtain ⟨a, xs, qs, rfl, _⟩ := h; rfl
  · obtain ⟨a, xs, qs, rfl, hq, hL, hP, hS, k⟩ := h
    refine ⟨_, (pss_cons (ps_set (i := 1) sc_product_of.nd rfl (.inl rfl) (pe_glob (v := .ref T.q_ONE) rfl T.g_ONE rfl))
      (pss_cons (ps_for PassesOwn.never rfl (pi_seqVK K (pv 0)) (pg_name (i := 2) sc_product_of.nd rfl (.inl rfl))
        (pss_one (ps_set (i := 1) sc_product_of.nd rfl (.inl rfl) (pe_call G_multiplied (hr.mono (by omega)) (by rfl) T.g_multiplied T.f_multiplied.kp T.b_multiplied .nil pass0 (pa_cons (pv 1) (pa_cons (pv 2) pa_nil))))))
      (pss_one (ps_ret (pv 1))))), ?_⟩
    walk_at "go0"
    refine l_seq rfl hq (fun i σ' H' => ∃ v y, σ' = [some (.ref a), some v, y] ∧ Same H H' ∧ Fr K H' v ((qs.take i).foldl mul2 (1, 1))) ⟨_, _, rfl, Same.refl H, ⟨_, rfl, T.t_ONE H⟩⟩ (fun i σ' H' _ p => ?_) (fun i x σ' H' e p => ?_) fun σ' H' p => ?_
    · obtain ⟨_, _, _, h, _⟩ := p
      exact h
    · obtain ⟨v, y, rfl, hs, hv⟩ := p
      obtain ⟨q, e1, e2⟩ := hL.2 i x e
      have hi : i < qs.length := (List.getElem?_eq_some_iff.mp e1).1
      obtain ⟨z1, z2, z3⟩ := hP i (by omega)
      obtain ⟨y1, y2, y3⟩ := hS q (List.mem_of_getElem? e1)
      walk_at "go"
      refine c_F2 rfl ⟨hv, z2, z3⟩ ⟨e2.keep (TK.of hs), y2, y3⟩ z1 y1 trivial fun v' H2 s2 h2 => ?_
      refine ⟨v', _, rfl, hs.trans s2, ?_⟩
      rw [fold_next e1]
      exact h2
    · obtain ⟨v, y, rfl, hs, hv⟩ := p
      walk_at "go"
      rw [hL.1, List.take_length] at hv
      exact k _ _ hs hv
end
end Al

set_option Elab.async false
set_option linter.all false
set_option maxRecDepth 100000
set_option maxHeartbeats 4000000
set_option exponentiation.threshold 20000
open PySem PySem.Spec PyProof.Rows L2 Al
namespace Al
/-- where draws come from -/
def DealAt (cs : List Int) (m c : Int) (H : Hp) (a b : Addr) : Prop := H a = some (.lst [.ref b, .int m, .int c]) ∧ H b = some (.lst (cs.map V.int)) ∧ (∀ z ∈ cs, 0 ≤ z) ∧ cs.length ≤ 63
def DealOk (H : Hp) (a b : Addr) : Prop := ∃ cs m c, DealAt cs m c H a b
theorem DealAt.ne {cs : List Int} {m c : Int} {H : Hp} {a b : Addr} (h : DealAt cs m c H a b) : a ≠ b := by
  refine ne_of h.1 h.2.1 fun e => ?_
  injection e with e
  cases cs with
  | nil => cases e
  | cons x xs => cases e
theorem DealOk.keep {H H' : Hp} {a b : Addr} (h : DealOk H a b) (k : Same H H') : DealOk H' a b := by
  obtain ⟨cs, m, c, h1, h2, h3⟩ := h
  exact ⟨cs, m, c, k _ _ h1, k _ _ h2, h3⟩
theorem DealOk.ne {H : Hp} {a b : Addr} (h : DealOk H a b) : a ≠ b := by
  obtain ⟨_, _, _, h⟩ := h
  exact h.ne
/-- an object that came later is none of these -/
theorem DealOk.new {H H' : Hp} {a b p : Addr} {o : HO} (h : DealOk H a b) (n : Nw p o H H') : p ≠ a ∧ p ≠ b := by
  obtain ⟨_, _, _, h1, h2, _⟩ := h
  exact ⟨(n.ne h1).symm, (n.ne h2).symm⟩
theorem DealOk.none {H : Hp} {a b p : Addr} (h : DealOk H a b) (n : H p = none) : p ≠ a ∧ p ≠ b := by
  obtain ⟨_, _, _, h1, h2, _⟩ := h
  exact ⟨(ne_of_none h1 n).symm, (ne_of_none h2 n).symm⟩
theorem DealOk.tk {H H' : Hp} {a b : Addr} (h : DealOk H a b) (k : But a b H H') : TK H H' := by
  obtain ⟨_, _, _, h1, h2, _⟩ := h
  exact k.tk h1 h2
/-- handed back behind a draw -/
def Dr (a b : Addr) (H H' : Hp) : Prop := DealOk H' a b ∧ But a b H H' ∧ TK H H'
theorem Dr.of {a b : Addr} {H H' : Hp} (h : DealOk H a b) (h' : DealOk H' a b) (k : But a b H H') : Dr a b H H' := ⟨h', k, h.tk k⟩
theorem Dr.rfl' {a b : Addr} {H : Hp} (h : DealOk H a b) : Dr a b H H := ⟨h, But.of (Same.refl H), TK.rfl' H⟩
theorem Dr.trans {a b : Addr} {H H1 H2 : Hp} (h : Dr a b H H1) (h' : Dr a b H1 H2) : Dr a b H H2 := ⟨h'.1, h.2.1.trans h'.2.1, h.2.2.trans h'.2.2⟩
theorem Dr.same {a b : Addr} {H H1 H2 : Hp} (h : Dr a b H H1) (h' : Same H1 H2) : Dr a b H H2 := ⟨h.1.keep h', h.2.1.trans (But.of h'), h.2.2.trans (TK.of h')⟩
theorem Dr.nw {a b p : Addr} {o : HO} {H H1 H2 : Hp} (h : Dr a b H H1) (h' : Nw p o H1 H2) : Dr a b H H2 := h.same h'.same
theorem Dr.free {a b p : Addr} {H H1 : Hp} (h : Dr a b H H1) (n : H1 p = .none) : H p = .none := by
  cases e : H p with
  | none => rfl
  | some o =>
    by_cases h1 : p = a
    · obtain ⟨⟨_, _, _, q1, _⟩, _⟩ := h
      rw [h1, q1] at n
      cases n
    · by_cases h2 : p = b
      · obtain ⟨⟨_, _, _, _, q1, _⟩, _⟩ := h
        rw [h2, q1] at n
        cases n
      · rw [h.2.1 p o h1 h2 e] at n
        cases n
theorem Dr.mu {a b p : Addr} {o : HO} {H H1 H2 : Hp} (hd : DealOk H a b) (h : Dr a b H H1) (m : Mu p o H1 H2) (n : H p = .none) : Dr a b H H2 := by
  obtain ⟨n1, n2⟩ := hd.none n
  obtain ⟨⟨cs, x, y, q1, q2, q3⟩, h2, h3⟩ := h
  exact ⟨⟨cs, x, y, (m.ne n1.symm).trans q1, (m.ne n2.symm).trans q2, q3⟩, fun z u m1 m2 e => by rw [m.ne (ne_of_none e n)]; exact h2 z u m1 m2 e, fun z xs e => by rw [m.ne (ne_of_none e n)]; exact h3 z xs e⟩
def sp_any (K : PySem.W.Frag) : Sp := fun vs H Q _ => ∃ (a b : Addr) (n : Int), vs = [.ref a, .int n] ∧ DealOk H a b ∧ 0 < n ∧ n.natAbs < 2 ^ 3000 ∧ ∀ r H', 0 ≤ r → r < n → Dr a b H H' → Q (.int r) H'
theorem c_any {K : PySem.W.Frag} {a b : Addr} {n : Int} {H : Hp} {Q : VK} {E : XK} {vs : List V} (e : vs = [.ref a, .int n]) (h : DealOk H a b) (h0 : 0 < n) (h1 : n.natAbs < 2 ^ 3000) (q : ∀ r H', 0 ≤ r → r < n → Dr a b H H' → Q (.int r) H') : sp_any K vs H Q E :=
  ⟨a, b, n, e, h, h0, h1, q⟩
theorem concat_of {cs : List Int} (h : cs ≠ []) : ∃ ys z, cs = ys ++ [z] := ⟨cs.dropLast, cs.getLast h, (List.dropLast_concat_getLast h).symm⟩
section
variable {P : Program} {w : World} {K : PySem.W.Frag} {mg : Str → Option Value} {base : Heap}
theorem fdiv_nn {i n : Int} (h : 0 ≤ i) (h0 : 0 < n) : 0 ≤ i.fdiv n := by
  rw [Int.fdiv_eq_ediv_of_nonneg i (by omega)]
  exact Int.ediv_nonneg h (by omega)
theorem ok_any (T : Txt K mg) : FnOk P w K mg base CX0 1 T.a_law_any T.d_law_any p_law_any (sp_any K) := by
  refine T.f_law_any.ok sc_law_any (fun vs H Q E h => ?_) (fun cdv A outer s H vs Q E hr h => ?_)
  · obtain ⟨a, b, n, rfl, _⟩ := h; rfl
  · obtain ⟨a, b, n, rfl, hd, h0, h1, k⟩ := h
    refine ⟨_, (pss_cons (ps_while PassesOwn.never (PW.pt (pw_and (pt_cmpR (op_neDK K hr.units) (pe_ix (ix_sqK K) (pv 0) pe_int (fun _ _ => rfl)) (pe_lst pa_nil) (nomark _)) (pw_and1 (pt_cmpR op_eq (pe_ix (ix_sqK K) (pe_ix (ix_sqK K) (pv 0) pe_int (fun _ _ => rfl)) (pe_un un_neg pe_int) (fun _ _ => rfl)) pe_int (nomark _)))))
        (pss_one (ps_expr (pe_bm0 PySem.F.plainAttrs_list PySem.F.slot_list_pop PySem.F.type_list_pop mt_pop (pe_ix (ix_sqK K) (pv 0) pe_int (fun _ _ => rfl))))))
      (pss_cons (ps_if (pt_cmpR (op_neDK K hr.units) (pe_ix (ix_sqK K) (pv 0) pe_int (fun _ _ => rfl)) (pe_lst pa_nil) (nomark _))
        (pss_cons (ps_set (i := 2) sc_law_any.nd rfl (.inl rfl) (pe_callTy cr_int (by rfl) T.z_int (by decide +kernel) (pa_cons (pe_bm0 PySem.F.plainAttrs_list PySem.F.slot_list_pop PySem.F.type_list_pop mt_pop (pe_ix (ix_sqK K) (pv 0) pe_int (fun _ _ => rfl))) pa_nil)))
      (pss_cons (ps_expr (pe_bm PySem.F.plainAttrs_list PySem.F.slot_list_append PySem.F.type_list_append mt_append (pe_ix (ix_sqK K) (pv 0) pe_int (fun _ _ => rfl)) (pa_cons (pe_op op_fdivZ (pv 2) (pv 1)) pa_nil)))
      (pss_one (ps_ret (pe_op op_mod (pv 2) (pv 1)))))) pss_nil)
      (pss_cons (ps_asg (pe_op op_add (pe_ix (ix_sqK K) (pv 0) pe_int (fun _ _ => rfl)) pe_int) (pg_sub (pv 0) pe_int set_list))
      (pss_cons (ps_asg (pe_op op_mod (pe_callTy cr_int (by rfl) T.z_int (by decide +kernel) (pa_cons (pe_op op_add (pe_op op_add (pe_op op_mulZ (pe_ix (ix_sqK K) (pv 0) pe_int (fun _ _ => rfl)) pe_int) pe_int) (pe_op op_mulZ pe_int (pe_ix (ix_sqK K) (pv 0) pe_int (fun _ _ => rfl)))) pa_nil)) pe_int) (pg_sub (pv 0) pe_int set_list))
      (pss_one (ps_ret (pe_op op_mod (pe_callTy cr_int (by rfl) T.z_int (by decide +kernel) (pa_cons (pe_op op_fdivZ (pe_op op_mod (pe_callTy cr_int (by rfl) T.z_int (by decide +kernel) (pa_cons (pe_op op_add (pe_op op_mulZ (pe_ix (ix_sqK K) (pv 0) pe_int (fun _ _ => rfl)) pe_int) (pe_ix (ix_sqK K) (pv 0) pe_int (fun _ _ => rfl))) pa_nil)) pe_int) pe_int) pa_nil)) (pv 1)))))))), ?_⟩
    (try dsimp only [cxOf])
    obtain ⟨cs0, m, c, hD⟩ := id hd
    have nab := hD.ne
    refine r_seq ?_
    refine l_while (fun l σ' H' => ∃ cs, σ' = [some (.ref a), some (.int n), none] ∧ DealAt cs m c H' a b ∧ But a b H H' ∧ cs.length = l) (fun σ' H' => ∃ cs, σ' = [some (.ref a), some (.int n), none] ∧ DealAt cs m c H' a b ∧ But a b H H')
      (m0 := cs0.length) ⟨cs0, rfl, hD, But.of (Same.refl H), rfl⟩ (fun nx hnx l σ' H' hW => ?_) fun σ' H' hP => ?_
    · obtain ⟨cs, rfl, ⟨ha, hb, hn, hl⟩, hB, rfl⟩ := hW
      walk_at "go"
      refine r_new (Nat.le_of_ble_eq_true rfl) fun p H1 np => ?_
      walk_at "go"
      refine r_neNil (SqL.of (by walk_at "ls")) (SqL.of np.at) ?_
      walk_at "go"
      refine r_ndec (fun hc => ?_) (fun hc => ?_)
      · obtain ⟨ys, z, rfl⟩ := concat_of hc
        have hbb := hb
        rw [List.map_append] at hb
        walk_at "go"
        have hb1 : H1 b = some (.lst (ys.map V.int ++ [.int z])) := np.same _ _ hb
        have ha1 := np.same _ _ ha
        refine r_ixL (SqL.of hb1) (atI_last _ _) ?_
        walk_at "go"
        refine r_dec (fun hz => ?_) (fun hz => ?_)
        · refine ⟨_, fun _ _ h => h, ?_⟩
          walk_at "go"
          refine r_pop hb1 fun H2 mu => ?_
          refine ⟨ys.length, by rw [List.length_append, List.length_singleton]; omega, ys, rfl, ⟨by rw [mu.ne nab]; exact ha1, mu.at, fun z hz => hn z (List.mem_append_left _ hz), ?_⟩, ?_, rfl⟩
          · rw [List.length_append] at hl
            omega
          · exact fun x o n1 n2 e => by rw [mu.ne n2]; exact np.same _ _ (hB x o n1 n2 e)
        · exact hnx _ _ ⟨_, rfl, ⟨ha1, np.same _ _ hbb, hn, hl⟩, hB.trans (But.of np.same)⟩
      · walk_at "go"
        exact hnx _ _ ⟨_, rfl, ⟨np.same _ _ ha, np.same _ _ hb, hn, hl⟩, hB.trans (But.of np.same)⟩
    · obtain ⟨cs, rfl, ⟨ha, hb, hn, hl⟩, hB⟩ := hP
      walk_at "go"
      refine r_new (Nat.le_of_ble_eq_true rfl) fun p H1 np => ?_
      walk_at "go"
      refine r_neNil (SqL.of (by walk_at "ls")) (SqL.of np.at) ?_
      walk_at "go"
      have ha1 := np.same _ _ ha
      have hb1 := np.same _ _ hb
      have hB1 : But a b H H1 := hB.trans (But.of np.same)
      refine r_ndec (fun hc => ?_) (fun hc => ?_)
      · obtain ⟨ys, z, rfl⟩ := concat_of hc
        rw [List.map_append] at hb1
        walk_at "go"
        refine r_pop hb1 fun H2 mu => ?_
        have ha2 : H2 a = _ := (mu.ne nab).trans ha1
        walk_at "go"
        · refine r_app mu.at (by rw [List.length_map]; rw [List.length_append] at hl; omega) fun H3 mu3 => ?_
          walk_at "go"
          · have hz : 0 ≤ z := hn z (List.mem_append_right _ (List.mem_singleton.mpr rfl))
            refine k _ _ (Int.emod_nonneg _ (by omega)) (Int.emod_lt_of_pos _ h0) (Dr.of hd ⟨ys ++ [z.fdiv n], m, c, (mu3.ne nab).trans ha2, ?_, fun y hy => ?_, ?_⟩ fun x o n1 n2 e => by rw [mu3.ne n2, mu.ne n2]; exact hB1 x o n1 n2 e)
            · rw [mu3.at, List.map_append]
              rfl
            · rcases List.mem_append.mp hy with hy | hy
              · exact hn y (List.mem_append_left _ hy)
              · cases List.mem_singleton.mp hy
                exact fdiv_nn hz h0
            · rw [List.length_append] at hl ⊢
              exact hl
          · exact h0
        all_goals exact divC h0 h1 _
      · walk_at "go"
        · refine r_setL ha1 rfl fun H2 mu => ?_
          have ha2 := mu.at
          have hb2 : H2 b = _ := (mu.ne nab.symm).trans hb1
          walk_at "go"
          · refine r_setL (i := 1) ha2 rfl fun H3 mu3 => ?_
            have ha3 := mu3.at
            have hb3 : H3 b = _ := (mu3.ne nab.symm).trans hb2
            walk_at "go"
            · refine k _ _ (Int.emod_nonneg _ (by omega)) (Int.emod_lt_of_pos _ h0) (Dr.of hd ⟨cs, _, _, ha3, hb3, hn, hl⟩ fun x o n1 n2 e => by rw [mu3.ne n1, mu.ne n1]; exact hB1 x o n1 n2 e)
            all_goals first | exact h0 | walk_at "im"
          all_goals walk_at "im"
end
end Al

set_option Elab.async false
set_option linter.all false
set_option maxRecDepth 100000
set_option maxHeartbeats 4000000
set_option exponentiation.threshold 20000
open PySem PySem.Spec PyProof.Rows L2 Al
namespace Al
section
variable {P : Program} {w : World} {K : PySem.W.Frag} {mg : Str → Option Value} {base : Heap}
def sp_of (K : PySem.W.Frag) : Sp := fun vs H Q _ => ∃ (a b s : Addr) (xs : List V), vs = [.ref a, .ref s] ∧ DealOk H a b ∧ H s = some (.lst xs) ∧ s ≠ a ∧ s ≠ b ∧ 0 < xs.length ∧ xs.length ≤ 1000 ∧ ∀ x H', x ∈ xs → Dr a b H H' → Q x H'
theorem c_of {K : PySem.W.Frag} {a b s : Addr} {xs : List V} {H : Hp} {Q : VK} {E : XK} {vs : List V} (e : vs = [.ref a, .ref s]) (h : DealOk H a b) (hs : H s = some (.lst xs)) (hn : s ≠ a ∧ s ≠ b) (h0 : 0 < xs.length) (h1 : xs.length ≤ 1000) (q : ∀ x H', x ∈ xs → Dr a b H H' → Q x H') : sp_of K vs H Q E :=
  ⟨a, b, s, xs, e, h, hs, hn.1, hn.2, h0, h1, q⟩
theorem ok_of (T : Txt K mg) : FnOk P w K mg base CX0 2 T.a_law_of T.d_law_of p_law_of (sp_of K) := by
  have G_law_any : FnOk P w K mg base CX0 1 T.a_law_any T.d_law_any p_law_any (sp_any K) := ok_any T
  refine T.f_law_of.ok sc_law_of (fun vs H Q E h => ?_) (fun cdv A outer s H vs Q E hr h => ?_)
  · obtain ⟨a, b, s, xs, rfl, _⟩ := h; rfl
  · obtain ⟨a, b, s, xs, rfl, hd, hs, n1, n2, h0, h1, k⟩ := h
    refine ⟨_, (pss_one (ps_ret (pe_ix (ix_sqK K) (pv 1) (pe_call G_law_any (hr.mono (by omega)) (by rfl) T.g_law_any T.f_law_any.kp T.b_law_any .nil pass0 (pa_cons (pv 0) (pa_cons (pe_callB (cr_lenK K) (by rfl) T.z_len (by decide +kernel) (pa_cons (pv 1) pa_nil)) pa_nil))) (fun _ _ => rfl)))), ?_⟩
    walk_at "go0"
    refine c_any rfl hd (by omega) (Nat.lt_of_le_of_lt (show ((xs.length : Nat) : Int).natAbs ≤ 2 ^ 10 by rw [Int.natAbs_natCast]; omega) (Nat.pow_lt_pow_right (by decide) (by decide))) fun r H1 r0 r1 hD => ?_
    obtain ⟨x, hx, _, e⟩ := at_ok r0 r1
    have hs1 : H1 s = some (.lst xs) := hD.2.1 _ _ n1 n2 hs
    refine r_ixL (SqL.of hs1) e ?_
    exact k _ _ hx hD
def sp_same (K : PySem.W.Frag) (n : Nat) : Sp := fun vs H Q _ => ∃ x y, vs = [x, y] ∧ Sm K H n x y ∧ ∀ H', Same H H' → Q (.bl true) H'
theorem c_same {n : Nat} {x y : V} {H : Hp} {Q : VK} {E : XK} {vs : List V} (e : vs = [x, y]) (h : Sm K H n x y) (q : ∀ H', Same H H' → Q (.bl true) H') : sp_same K n vs H Q E := ⟨x, y, e, h, q⟩
def sp_pre (K : PySem.W.Frag) : Nat → Sp
  | 0 => fun _ _ _ _ => False
  | n + 1 => sp_same K n
theorem no_int {i : Int} : decide (V.int i = V.non) = false := decide_eq_false (fun h => by cases h)
theorem no_bl {i : Bool} : decide (V.bl i = V.non) = false := decide_eq_false (fun h => by cases h)
theorem no_str {i : Str} : decide (V.str i = V.non) = false := decide_eq_false (fun h => by cases h)
theorem ok_pre (T : Txt K mg) : ∀ n, FnOk P w K mg base CX0 n T.a_law_same T.d_law_same p_law_same (sp_pre K n)
  | 0 => fn_no
  | n + 1 => by
    have G_law_same : FnOk P w K mg base CX0 n T.a_law_same T.d_law_same p_law_same (sp_pre K n) := ok_pre T n
    refine T.f_law_same.ok sc_law_same (fun vs H Q E h => ?_) (fun cdv A outer s H vs Q E hr h => ?_)
    · obtain ⟨x, y, rfl, _⟩ := h; rfl
    · obtain ⟨x, y, rfl, hm, k⟩ := h
      have h0 : Sc x y ∨ ∃ m, n = m + 1 ∧ ∃ a b xs ys, x = .ref a ∧ y = .ref b ∧ Tp K H a xs ∧ Tp K H b ys ∧ xs.length = ys.length ∧ xs.length ≤ 100000 ∧ ∀ (i : Nat) x y, xs[i]? = some x → ys[i]? = some y → Sm K H m x y := by
        cases n with
        | zero => exact .inl hm
        | succ n =>
          rcases hm with hm | hm
          · exact .inl hm
          · exact .inr ⟨n, rfl, hm⟩
      refine ⟨_, (pss_cons (ps_if (pt_val (pe_callB (cr_isiK K) (by rfl) T.z_isinstance (by decide +kernel) (pa_cons (pv 1) (pa_cons (pe_bltn (v := .ty "tuple") (u := .type "tuple") (by rfl) T.z_tuple (by decide +kernel) rfl) pa_nil))))
        (pss_cons (ps_if (PW.pt (pw_or (pt_not (pt_val (pe_callB (cr_isiK K) (by rfl) T.z_isinstance (by decide +kernel) (pa_cons (pv 0) (pa_cons (pe_bltn (v := .ty "tuple") (u := .type "tuple") (by rfl) T.z_tuple (by decide +kernel) rfl) pa_nil))))) (pw_or1 (pt_cmpR op_ne (pe_callB (cr_lenK K) (by rfl) T.z_len (by decide +kernel) (pa_cons (pv 0) pa_nil)) (pe_callB (cr_lenK K) (by rfl) T.z_len (by decide +kernel) (pa_cons (pv 1) pa_nil)) (nomark _)))))
        (pss_one (ps_ret pe_bl)) pss_nil)
      (pss_one (ps_ret (pe_cmpR op_eq (pe_callB (cr_lenK K) (by rfl) T.z_len (by decide +kernel) (pa_cons (pe_lc (own := [("k", 2)]) (g := gName 2) rfl sc_law_same.nd (pi_range1 rfl T.z_range (pa_cons (pe_callB (cr_lenK K) (by rfl) T.z_len (by decide +kernel) (pa_cons (pv 1) pa_nil)) pa_nil)) (blkOk_by (own := [("k", 2)]) (N := n_law_same) (sc := defScope s_law_same) (by decide +kernel)) (fun _ _ _ _ _ => pg_name (i := 2) sc_law_same.nd rfl (Or.inl rfl)) (fun _ _ _ _ _ => pts_one (pt_not (pt_val (pe_call G_law_same (hr.mono (by omega)) (by rfl) T.g_law_same T.f_law_same.kp T.b_law_same .nil pass0 (pa_cons (pe_ix (ix_sqK K) (pv 0) (pv 2) (fun _ _ => rfl)) (pa_cons (pe_ix (ix_sqK K) (pv 1) (pv 2) (fun _ _ => rfl)) pa_nil)))))) (fun _ _ _ _ _ => (pv 2))) pa_nil)) pe_int (nomark _))))) pss_nil)
      (pss_cons (ps_if (pt_cmpR op_isNo (pv 1) pe_non (nomark _))
        (pss_one (ps_ret (pe_cmpR op_isNo (pv 0) pe_non (nomark _)))) pss_nil)
      (pss_cons (ps_if (pt_val (pe_callB (cr_isiK K) (by rfl) T.z_isinstance (by decide +kernel) (pa_cons (pv 1) (pa_cons (pe_bltn (v := .ty "bool") (u := .type "bool") (by rfl) T.z_bool (by decide +kernel) rfl) pa_nil))))
        (pss_one (ps_ret (pe_ifExp (pt_val (pv 1)) (pe_cmpR op_isBl (pv 0) pe_bl (nomark _)) (pe_cmpR op_isBl (pv 0) pe_bl (nomark _))))) pss_nil)
      (pss_cons (ps_if (pt_val (pe_callB (cr_isiK K) (by rfl) T.z_isinstance (by decide +kernel) (pa_cons (pv 1) (pa_cons (pe_bltn (v := .ty "int") (u := .type "int") (by rfl) T.z_int (by decide +kernel) rfl) pa_nil))))
        (pss_one (ps_ret (pe_and (pe_callB (cr_isiK K) (by rfl) T.z_isinstance (by decide +kernel) (pa_cons (pv 0) (pa_cons (pe_bltn (v := .ty "int") (u := .type "int") (by rfl) T.z_int (by decide +kernel) rfl) pa_nil))) (pe_and (pe_not (pe_callB (cr_isiK K) (by rfl) T.z_isinstance (by decide +kernel) (pa_cons (pv 0) (pa_cons (pe_bltn (v := .ty "bool") (u := .type "bool") (by rfl) T.z_bool (by decide +kernel) rfl) pa_nil)))) (pe_one (pe_cmpR op_eq (pv 0) (pv 1) (nomark _))))))) pss_nil)
      (pss_one (ps_ret (pe_and (pe_callB (cr_isiK K) (by rfl) T.z_isinstance (by decide +kernel) (pa_cons (pv 0) (pa_cons (pe_bltn (v := .ty "str") (u := .type "str") (by rfl) T.z_str (by decide +kernel) rfl) pa_nil))) (pe_one (pe_cmpR op_eq (pv 0) (pv 1) (nomark _)))))))))), ?_⟩
      rcases h0 with ⟨rfl, hk⟩ | ⟨m, rfl, a, b, xs, ys, rfl, rfl, ha, hb, hl, hz, hs⟩
      · rcases hk with ⟨i, rfl⟩ | ⟨c, rfl⟩ | rfl | ⟨z, rfl⟩
        · walk_at "go0"
          rw [no_int]
          walk_at "go"
          have := k H (Same.refl H)
          rw [decide_eq_true rfl]
          exact this
        · walk_at "go0"
          rw [no_bl]
          walk_at "go"
          cases c
          · walk_at "go"
            exact k H (Same.refl H)
          · walk_at "go"
            exact k H (Same.refl H)
        · walk_at "go0"
          rw [decide_eq_true rfl]
          walk_at "go"
          rw [decide_eq_true rfl]
          exact k H (Same.refl H)
        · walk_at "go0"
          rw [no_str]
          walk_at "go"
          rw [decide_eq_true rfl]
          exact k H (Same.refl H)
      · walk_at "go0"
        refine r_ndec (fun e => (e (by rw [hl])).elim) fun _ => ?_
        walk_at "go"
        refine c_range1 (by omega) (by omega) (fun D _ H' => Same H H' ∧ H' D = some (.lst [])) (fun _ => rfl) (fun D H1 np => ⟨np.same, np.at⟩) (fun D i H' hi p => ?_) fun D H' p => ?_
        · obtain ⟨p1, p2⟩ := p
          have hi2 : i < ys.length := by omega
          have hi1 : i < xs.length := by omega
          walk_at "go"
          refine r_ixT (ha.keep (TK.of p1)).sq (atI_nat (List.getElem?_eq_getElem hi1)) ?_
          walk_at "go"
          refine r_ixT (hb.keep (TK.of p1)).sq (atI_nat (List.getElem?_eq_getElem hi2)) ?_
          walk_at "go"
          rw [show sp_pre K (m + 1) = sp_same K m from rfl]
          refine c_same rfl ((hs i _ _ (List.getElem?_eq_getElem hi1) (List.getElem?_eq_getElem hi2)).keep (TK.of p1)) fun H2 s2 => ?_
          walk_at "go"
          exact ⟨p1.trans s2, s2 _ _ p2⟩
        · obtain ⟨p1, p2⟩ := p
          walk_at "go"
          exact k _ p1
theorem ok_same (T : Txt K mg) (n : Nat) : FnOk P w K mg base CX0 (n + 1) T.a_law_same T.d_law_same p_law_same (sp_same K n) := ok_pre T (n + 1)
def sp_deal (K : PySem.W.Frag) : Sp := fun vs H Q _ => ∃ (a : Addr) (ns : List Int) (i : Int), vs = [.ref a, .int i] ∧ SqL K H a (ns.map V.int) ∧ ns.length ≤ 63 ∧ ∀ a b H', Same H H' → DealOk H' a b → H a = none → H b = none → Q (.ref a) H'
theorem ok_deal (T : Txt K mg) : FnOk P w K mg base CX0 1 T.a_law_deal T.d_law_deal p_law_deal (sp_deal K) := by
  refine T.f_law_deal.ok sc_law_deal (fun vs H Q E h => ?_) (fun cdv A outer s H vs Q E hr h => ?_)
  · obtain ⟨a, ns, i, rfl, _⟩ := h; rfl
  · obtain ⟨a, ns, i, rfl, hS, hl, k⟩ := h
    refine ⟨_, (pss_cons (ps_setLc (i := 2) (own := [("cell", 4)]) (g := gName 4) rfl sc_law_deal.nd rfl rfl (sw_true rfl rfl rfl (by decide +kernel)) (pi_listK K (pe_slice (sl_listK K) (pv 0) po_none (po_some pe_int))) (blkOk_by (own := [("cell", 4)]) (N := n_law_deal) (sc := defScope s_law_deal) (by decide +kernel)) (fun _ _ _ _ _ => pg_name (i := 4) sc_law_deal.nd rfl (Or.inl rfl)) (fun _ _ _ _ _ => pts_nil) (fun _ _ _ _ _ => (pe_callB cr_abs (by rfl) T.z_abs (by decide +kernel) (pa_cons (pe_callTy cr_int (by rfl) T.z_int (by decide +kernel) (pa_cons (pv 4) pa_nil)) pa_nil))))
      (pss_cons (ps_set (i := 3) sc_law_deal.nd rfl (.inl rfl) (pe_op op_add pe_int (pe_op op_mulZ pe_int (pv 1))))
      (pss_cons (ps_for PassesOwn.never rfl (pi_listK K (pv 2)) (pg_name (i := 4) sc_law_deal.nd rfl (.inl rfl))
        (pss_one (ps_set (i := 3) sc_law_deal.nd rfl (.inl rfl) (pe_op op_mod (pe_callTy cr_int (by rfl) T.z_int (by decide +kernel) (pa_cons (pe_op op_add (pe_op op_add (pe_op op_mulZ (pv 3) pe_int) (pe_op op_mod (pv 4) pe_int)) pe_int) pa_nil)) pe_int))))
      (pss_one (ps_ret (pe_lst (pa_cons (pe_revLK K (pe_lc (own := [("cell", 4)]) (g := gName 4) rfl sc_law_deal.nd (pi_listK K (pv 2)) (blkOk_by (own := [("cell", 4)]) (N := n_law_deal) (sc := defScope s_law_deal) (by decide +kernel)) (fun _ _ _ _ _ => pg_name (i := 4) sc_law_deal.nd rfl (Or.inl rfl)) (fun _ _ _ _ _ => pts_one (pt_cmpR op_ge (pv 4) (pe_op op_pow pe_int pe_int) (nomark _))) (fun _ _ _ _ _ => (pv 4)))) (pa_cons (pv 3) (pa_cons pe_int pa_nil))))))))), ?_⟩
    walk_at "go0"
    refine r_slL hS fun p H1 np => ?_
    have hc : cutV (ns.map V.int) none (some 63) = ns.map V.int := cut_all (n := 63) (by rw [List.length_map]; exact hl)
    rw [hc] at np
    refine c_list (SqL.of np.at) (fun D j H' => H1 D = none ∧ Same H1 H' ∧ H' D = some (.lst (((ns.take j).map fun z => if z < 0 then -z else z).map V.int))) (fun _ => rfl) (fun D H2 n2 => ⟨n2.1, n2.same, n2.at⟩) (fun D j H' _ q => SqL.of (q.2.1 _ _ np.at)) (fun D j x H' e q => ?_) fun D H' q => ?_
    · obtain ⟨q0, q1, q2⟩ := q
      rw [List.getElem?_map] at e
      cases e1 : ns[j]? with
      | none => rw [e1] at e; cases e
      | some z =>
        rw [e1] at e
        cases e
        walk_at "go"
        refine r_it q2 (by rw [List.length_map, List.length_map, List.length_take]; omega) fun H2 mu => ⟨q0, mu.same0 q1 q0, ?_⟩
        rw [mu.at, List.take_add_one, e1]
        simp only [List.map_append, Option.toList, List.map_cons, List.map_nil]
    · obtain ⟨q0, q1, q2⟩ := q
      rw [List.length_map, List.take_length] at q2
      generalize hcs : (ns.map fun z => if z < 0 then -z else z) = cs at q2
      have hcn : ∀ z ∈ cs, 0 ≤ z := fun z hz => by
        rw [← hcs] at hz
        obtain ⟨y, _, e⟩ := List.mem_map.mp hz
        rw [← e]
        split <;> omega
      have hcl : cs.length ≤ 63 := by rw [← hcs, List.length_map]; exact hl
      have hp : H D = none := np.same.free q0
      have sH : Same H H' := np.same.trans q1
      walk_at "go"
      · refine l_list (SqL.of q2) (fun j σ' H2 => H' = H2 ∧ ∃ m y, σ' = [some (.ref a), some (.int i), some (.ref D), some (.int m), y]) ⟨rfl, _, _, rfl⟩ (fun j σ' H2 _ z => by rw [← z.1]; exact SqL.of q2) (fun j x σ' H2 e z => ?_) fun σ' H2 z => ?_
        · obtain ⟨rfl, m, y, rfl⟩ := z
          rw [List.getElem?_map] at e
          cases e1 : cs[j]? with
          | none => rw [e1] at e; cases e
          | some z =>
            rw [e1] at e
            cases e
            walk_at "go"
            · exact ⟨rfl, _, _, rfl⟩
            all_goals walk_at "im"
        · obtain ⟨rfl, m, y, rfl⟩ := z
          walk_at "go"
          refine c_list (SqL.of q2) (fun F j H3 => H' F = none ∧ Same H' H3 ∧ ∃ ds : List Int, H3 F = some (.lst (ds.map V.int)) ∧ (∀ z ∈ ds, 0 ≤ z) ∧ ds.length ≤ j) (fun _ => rfl) (fun F H3 n3 => ⟨n3.1, n3.same, [], n3.at, (fun z hz => nomatch hz), Nat.le_refl _⟩) (fun F j H3 _ q => SqL.of (q.2.1 _ _ q2)) (fun F j x H3 e q => ?_) fun F H3 q => ?_
          · obtain ⟨f0, f1, ds, f2, f3, f4⟩ := q
            rw [List.getElem?_map] at e
            cases e1 : cs[j]? with
            | none => rw [e1] at e; cases e
            | some z =>
              rw [e1] at e
              cases e
              have hj : j < cs.length := (List.getElem?_eq_some_iff.mp e1).1
              walk_at "go"
              · refine r_dec (fun _ => ?_) (fun _ => ?_)
                · walk_at "go"
                  refine r_it f2 (by rw [List.length_map]; omega) fun H4 mu => ⟨f0, mu.same0 f1 f0, ds ++ [z], ?_, fun y hy => ?_, ?_⟩
                  · rw [mu.at, List.map_append]
                    rfl
                  · rcases List.mem_append.mp hy with hy | hy
                    · exact f3 y hy
                    · cases List.mem_singleton.mp hy
                      exact hcn z (List.mem_of_getElem? e1)
                  · rw [List.length_append, List.length_singleton]
                    omega
                · exact ⟨f0, f1, ds, f2, f3, by omega⟩
              all_goals walk_at "im"
          · obtain ⟨f0, f1, ds, f2, f3, f4⟩ := q
            rw [List.length_map] at f4
            walk_at "go"
            refine r_rev (SqL.of f2) fun u H4 n4 => ?_
            walk_at "go"
            refine r_new (Nat.le_of_ble_eq_true rfl) fun v H5 n5 => ?_
            have s4 : Same H H4 := (sH.trans f1).trans n4.same
            refine k v u H5 (s4.trans n5.same) ⟨ds.reverse, m, 0, n5.at, ?_, fun z hz => f3 z (List.mem_reverse.mp hz), by rw [List.length_reverse]; omega⟩ (s4.free n5.1) ((sH.trans f1).free n4.1)
            rw [n5.same _ _ n4.at, List.map_reverse]
      all_goals walk_at "im"
end
end Al

set_option Elab.async false
set_option linter.all false
set_option maxRecDepth 100000
set_option maxHeartbeats 4000000
set_option exponentiation.threshold 20000
open PySem PySem.Spec PyProof.Rows L2 Al
namespace Al
theorem lo_neg' {a b : Int} (h : b < 0) : lo a b = ((-1 * a).fdiv ((Nat.gcd a.natAbs b.natAbs : Nat) : Int), (-1 * b).fdiv ((Nat.gcd a.natAbs b.natAbs : Nat) : Int)) := by
  rw [lo_neg h]
  have e : ∀ x g : Int, x.fdiv (-g) = (-1 * x).fdiv g := fun x g => by
    rw [show -1 * x = -x by omega, ← Int.neg_fdiv_neg (-x) g, Int.neg_neg]
  rw [e, e]
theorem lo_pos' {a b : Int} (h : ¬ b < 0) : lo a b = ((1 * a).fdiv ((Nat.gcd a.natAbs b.natAbs : Nat) : Int), (1 * b).fdiv ((Nat.gcd a.natAbs b.natAbs : Nat) : Int)) := by
  rw [lo_pos h, Int.one_mul, Int.one_mul]
section
variable {P : Program} {w : World} {K : PySem.W.Frag} {mg : Str → Option Value} {base : Heap}
theorem ok_law_lowest (T : Txt K mg) : FnOk P w K mg base CX0 1 T.a_law_lowest T.d_law_lowest p_law_lowest (sp_lowest K) := by
  refine T.f_law_lowest.ok sc_law_lowest (fun vs H Q E h => ?_) (fun cdv A outer s H vs Q E hr h => ?_)
  · obtain ⟨a, b, rfl, _⟩ := h; rfl
  · obtain ⟨a, b, rfl, hb, sa, sb, q⟩ := h
    refine ⟨_, (pss_cons (ps_par (i := 2) (j := 3) rfl sc_law_lowest.nd rfl rfl (by decide) rfl rfl (pa_cons (pe_callB cr_abs (by rfl) T.z_abs (by decide +kernel) (pa_cons (pv 0) pa_nil)) (pa_cons (pe_callB cr_abs (by rfl) T.z_abs (by decide +kernel) (pa_cons (pv 1) pa_nil)) pa_nil)) (by rfl))
      (pss_cons (ps_while PassesOwn.never (pt_cmpR op_ne (pv 3) pe_int (nomark _))
        (pss_one (ps_par (i := 2) (j := 3) rfl sc_law_lowest.nd rfl rfl (by decide) rfl rfl (pa_cons (pv 3) (pa_cons (pe_op op_mod (pe_callTy cr_int (by rfl) T.z_int (by decide +kernel) (pa_cons (pv 2) pa_nil)) (pv 3)) pa_nil)) (by rfl))))
      (pss_cons (ps_set (i := 4) sc_law_lowest.nd rfl (.inl rfl) (pe_ifExp (pt_cmpR op_gt (pv 1) pe_int (nomark _)) pe_int (pe_un un_neg pe_int)))
      (pss_one (ps_ret (pe_tup (pa_cons (pe_op op_fdivZ (pe_op op_mulZ (pv 4) (pv 0)) (pv 2)) (pa_cons (pe_op op_fdivZ (pe_op op_mulZ (pv 4) (pv 1)) (pv 2)) pa_nil)))))))), ?_⟩
    have g1 := gcd_pos' (a := a) hb
    have g2 := gcd_lt (a := a) hb sb
    have ab : ∀ i : Int, (if i < 0 then -i else i) = ((i.natAbs : Nat) : Int) := fun i => by split <;> omega
    walk_at "go0"
    rw [ab a, ab b]
    refine l_while (fun m σ' H' => H = H' ∧ ∃ l r : Nat, σ' = [some (.int a), some (.int b), some (.int (l : Int)), some (.int (r : Int)), none] ∧ Nat.gcd l r = Nat.gcd a.natAbs b.natAbs ∧ r = m) (fun σ' H' => H = H' ∧ ∃ l : Nat, σ' = [some (.int a), some (.int b), some (.int (l : Int)), some (.int 0), none] ∧ l = Nat.gcd a.natAbs b.natAbs)
      (m0 := b.natAbs) ⟨rfl, _, _, rfl, rfl, rfl⟩ (fun nx hnx m σ' H' hW => ?_) fun σ' H' hP => ?_
    · obtain ⟨rfl, l, r, rfl, hg, rfl⟩ := hW
      walk_at "go"
      refine r_ndec (fun hc => ?_) (fun hc => ?_)
      · refine ⟨_, fun _ _ h => h, ?_⟩
        have hr0 : 0 < r := by omega
        walk_at "go"
        · refine ⟨l % r, Nat.mod_lt _ hr0, rfl, r, l % r, rfl, ?_, rfl⟩
          rw [← hg, Nat.gcd_comm l r, Nat.gcd_comm r, ← Nat.gcd_rec]
        · show (0 : Int) < _
          omega
      · have hr0 : r = 0 := by omega
        subst hr0
        refine hnx _ _ ⟨rfl, l, rfl, ?_⟩
        rw [← hg, Nat.gcd_zero_right]
    · obtain ⟨rfl, l, rfl, rfl⟩ := hP
      walk_at "go"
      refine r_dec (fun hc => ?_) (fun hc => ?_)
      · walk_at "go"
        · refine r_new (Nat.le_of_ble_eq_true rfl) fun p H2 np => ?_
          refine q _ _ np.same ⟨p, rfl, ?_⟩
          rw [lo_pos' (by omega)]
          exact Tp.new np
        all_goals first | exact ⟨by omega, by rw [Int.natAbs_natCast]; exact g2⟩ | walk_at "im"
      · walk_at "go"
        · refine r_new (Nat.le_of_ble_eq_true rfl) fun p H2 np => ?_
          refine q _ _ np.same ⟨p, rfl, ?_⟩
          rw [lo_neg' (by omega)]
          exact Tp.new np
        all_goals first | exact ⟨by omega, by rw [Int.natAbs_natCast]; exact g2⟩ | walk_at "im"
/-- a draw that hands back an int -/
def spI (K : PySem.W.Frag) (C : Int → Prop) : Sp := fun vs H Q _ => ∃ a b : Addr, vs = [.ref a] ∧ DealOk H a b ∧ ∀ r H', C r → Dr a b H H' → Q (.int r) H'
theorem c_I {C : Int → Prop} {a b : Addr} {H : Hp} {Q : VK} {E : XK} {vs : List V} (e : vs = [.ref a]) (h : DealOk H a b) (q : ∀ r H', C r → Dr a b H H' → Q (.int r) H') : spI K C vs H Q E := ⟨a, b, e, h, q⟩
def Gr (r : Int) : Prop := 0 ≤ r ∧ r < 10 ^ 60
theorem ok_great (T : Txt K mg) : FnOk P w K mg base CX0 2 T.a_law_great T.d_law_great p_law_great (spI K Gr) := by
  have G_law_any : FnOk P w K mg base CX0 1 T.a_law_any T.d_law_any p_law_any (sp_any K) := ok_any T
  refine T.f_law_great.ok sc_law_great (fun vs H Q E h => ?_) (fun cdv A outer s H vs Q E hr h => ?_)
  · obtain ⟨a, b, rfl, _⟩ := h; rfl
  · obtain ⟨a, b, rfl, hd, k⟩ := h
    refine ⟨_, (pss_cons (ps_set (i := 1) sc_law_great.nd rfl (.inl rfl) (pe_call G_law_any (hr.mono (by omega)) (by rfl) T.g_law_any T.f_law_any.kp T.b_law_any .nil pass0 (pa_cons (pv 0) (pa_cons pe_int pa_nil))))
      (pss_cons (ps_if (pt_cmpR op_eq (pv 1) pe_int (nomark _))
        (pss_one (ps_ret (pe_op op_sub (pe_op op_sub (pe_op op_pow pe_int pe_int) pe_int) (pe_call G_law_any (hr.mono (by omega)) (by rfl) T.g_law_any T.f_law_any.kp T.b_law_any .nil pass0 (pa_cons (pv 0) (pa_cons (pe_op op_pow pe_int pe_int) pa_nil)))))) pss_nil)
      (pss_cons (ps_if (pt_cmpR op_lt (pv 1) pe_int (nomark _))
        (pss_one (ps_ret (pe_call G_law_any (hr.mono (by omega)) (by rfl) T.g_law_any T.f_law_any.kp T.b_law_any .nil pass0 (pa_cons (pv 0) (pa_cons (pe_ix (ix_sqK K) (pe_lst (pa_cons pe_int (pa_cons pe_int (pa_cons pe_int (pa_cons (pe_op op_pow pe_int pe_int) pa_nil))))) (pe_op op_sub (pv 1) pe_int) (fun _ _ => rfl)) pa_nil))))) pss_nil)
      (pss_cons (ps_set (i := 2) sc_law_great.nd rfl (.inl rfl) pe_int)
      (pss_cons (ps_for PassesOwn.never rfl (pi_range1 rfl T.z_range (pa_cons (pe_op op_add pe_int (pe_call G_law_any (hr.mono (by omega)) (by rfl) T.g_law_any T.f_law_any.kp T.b_law_any .nil pass0 (pa_cons (pv 0) (pa_cons pe_int pa_nil)))) pa_nil)) (pg_name (i := 3) sc_law_great.nd rfl (.inl rfl))
        (pss_one (ps_set (i := 2) sc_law_great.nd rfl (.inl rfl) (pe_op op_add (pe_op op_mulZ (pv 2) (pe_op op_pow pe_int pe_int)) (pe_call G_law_any (hr.mono (by omega)) (by rfl) T.g_law_any T.f_law_any.kp T.b_law_any .nil pass0 (pa_cons (pv 0) (pa_cons (pe_op op_pow pe_int pe_int) pa_nil)))))))
      (pss_one (ps_ret (pv 2)))))))), ?_⟩
    have p7 : ((10 : Int) ^ (7 : Int).toNat) = 10000000 := by decide
    walk_at "go0"
    refine c_any rfl hd (by decide) (by decide +kernel) fun r H1 r0 r1 d1 => ?_
    walk_at "go"
    refine r_dec (fun hc => ?_) (fun hc => ?_)
    · walk_at "go"
      · rw [p7]
        refine c_any rfl d1.1 (by decide) (by decide +kernel) fun r' H2 z0 z1 d2 => ?_
        walk_at "go"
        refine k _ _ ⟨?_, ?_⟩ (d1.trans d2)
        · show (0 : Int) ≤ 10 ^ 60 - 1 - r'
          omega
        · show 10 ^ 60 - 1 - r' < (10 : Int) ^ 60
          omega
      all_goals walk_at "im"
    · walk_at "go"
      refine r_dec (fun hc2 => ?_) (fun hc2 => ?_)
      · walk_at "go"
        · refine r_new (Nat.le_of_ble_eq_true rfl) fun p H2 np => ?_
          walk_at "go"
          obtain ⟨x, hx, _, e⟩ := at_ok (xs := [.int 2, .int 10, .int 100, .int (10 ^ (6 : Int).toNat)]) (r := r - 1) (by omega) (by show r - 1 < 4; omega)
          refine r_ixL (SqL.of np.at) e ?_
          have hx2 : ∃ n : Int, x = .int n ∧ 0 < n ∧ n ≤ 1000000 := by
            rcases List.mem_cons.mp hx with rfl | hx
            · exact ⟨_, rfl, by decide, by decide⟩
            rcases List.mem_cons.mp hx with rfl | hx
            · exact ⟨_, rfl, by decide, by decide⟩
            rcases List.mem_cons.mp hx with rfl | hx
            · exact ⟨_, rfl, by decide, by decide⟩
            rcases List.mem_cons.mp hx with rfl | hx
            · exact ⟨_, rfl, by decide, by decide⟩
            · cases hx
          obtain ⟨n, rfl, n0, n1⟩ := hx2
          walk_at "go"
          refine c_any rfl (d1.1.keep np.same) n0 (Nat.lt_of_le_of_lt (show n.natAbs ≤ 2 ^ 30 by omega) (Nat.pow_lt_pow_right (by decide) (by decide))) fun r' H3 z0 z1 d2 => ?_
          exact k _ _ ⟨z0, by omega⟩ ((d1.nw np).trans d2)
        all_goals walk_at "im"
      · walk_at "go"
        refine c_any rfl d1.1 (by decide) (by decide +kernel) fun r' H2 z0 z1 d2 => ?_
        walk_at "go"
        refine l_range1 (by omega) (by omega) (fun i σ' H' => ∃ (n : Int) (y : Option V), σ' = [some (.ref a), some (.int r), some (.int n), y] ∧ 0 ≤ n ∧ n < ((10 ^ (7 * i) : Nat) : Int) ∧ Dr a b H H') ⟨0, _, rfl, by decide, by decide, d1.trans d2⟩ (fun i σ' H' hi p => ?_) fun σ' H' p => ?_
        · obtain ⟨n, y, rfl, n0, n1, d3⟩ := p
          walk_at "go"
          · rw [p7]
            refine c_any rfl d3.1 (by decide) (by decide +kernel) fun u H4 u0 u1 d4 => ?_
            walk_at "go"
            refine ⟨_, _, rfl, by omega, ?_, d3.trans d4⟩
            have e : ((10 ^ (7 * (i + 1)) : Nat) : Int) = ((10 ^ (7 * i) : Nat) : Int) * 10000000 := by
              rw [Nat.mul_add, Nat.pow_add, Int.natCast_mul]
              rfl
            rw [e]
            omega
          all_goals walk_at "im"
        · obtain ⟨n, y, rfl, n0, n1, d3⟩ := p
          walk_at "go"
          refine k _ _ ⟨n0, Int.lt_of_lt_of_le n1 ?_⟩ d3
          have : 7 * (1 + r').toNat ≤ 60 := by omega
          exact Int.ofNat_le.mpr (Nat.pow_le_pow_right (by decide) this)
end
end Al

set_option Elab.async false
set_option linter.all false
set_option pp.maxSteps 2000
set_option maxRecDepth 100000
set_option maxHeartbeats 4000000
set_option exponentiation.threshold 20000
open PySem PySem.Spec PyProof.Rows L2 Al
namespace Al
theorem inI (i : Int) : ∀ cs : List Int, inV (.int i) (cs.map V.int) = decide (i ∈ cs)
  | [] => rfl
  | c :: cs => by
    have ih := inI i cs
    show ((c == i) || inV (.int i) (cs.map V.int)) = _
    rw [ih, Bool.eq_iff_iff]
    simp only [Bool.or_eq_true, beq_iff_eq, decide_eq_true_eq, List.mem_cons]
    constructor
    · rintro (h | h)
      · exact .inl h.symm
      · exact .inr h
    · rintro (h | h)
      · exact .inl h.symm
      · exact .inr h
/-- a drawn pair -/
def Raw (q : Int × Int) : Prop := q.2 ≠ 0 ∧ q.1.natAbs < 10 ^ 60 ∧ q.2.natAbs < 10 ^ 60
section
variable {P : Program} {w : World} {K : PySem.W.Frag} {mg : Str → Option Value} {base : Heap}
def sp_signed (K : PySem.W.Frag) : Sp := fun vs H Q _ => ∃ (a b : Addr) (n : Int), vs = [.ref a, .int n] ∧ DealOk H a b ∧ ∀ r H', r = n ∨ r = -n → Dr a b H H' → Q (.int r) H'
theorem c_signed {a b : Addr} {n : Int} {H : Hp} {Q : VK} {E : XK} {vs : List V} (e : vs = [.ref a, .int n]) (h : DealOk H a b) (q : ∀ r H', r = n ∨ r = -n → Dr a b H H' → Q (.int r) H') : sp_signed K vs H Q E := ⟨a, b, n, e, h, q⟩
theorem ok_signed (T : Txt K mg) : FnOk P w K mg base CX0 2 T.a_law_signed T.d_law_signed p_law_signed (sp_signed K) := by
  have G_law_any : FnOk P w K mg base CX0 1 T.a_law_any T.d_law_any p_law_any (sp_any K) := ok_any T
  refine T.f_law_signed.ok sc_law_signed (fun vs H Q E h => ?_) (fun cdv A outer s H vs Q E hr h => ?_)
  · obtain ⟨a, b, n, rfl, _⟩ := h; rfl
  · obtain ⟨a, b, n, rfl, hd, k⟩ := h
    refine ⟨_, (pss_one (ps_ret (pe_ifExp (pt_cmpR op_eq (pe_call G_law_any (hr.mono (by omega)) (by rfl) T.g_law_any T.f_law_any.kp T.b_law_any .nil pass0 (pa_cons (pv 0) (pa_cons pe_int pa_nil))) pe_int (nomark _)) (pv 1) (pe_un un_neg (pv 1))))), ?_⟩
    walk_at "go0"
    refine c_any rfl hd (by decide) (by decide +kernel) fun r H1 r0 r1 d1 => ?_
    walk_at "go"
    refine r_dec (fun hc => ?_) (fun hc => ?_)
    · walk_at "go"
      exact k _ _ (.inl rfl) d1
    · walk_at "go"
      exact k _ _ (.inr rfl) d1
/-- a draw that hands back a pair -/
def RetP (K : PySem.W.Frag) (a b : Addr) (H : Hp) (Q : VK) : Prop := ∀ v q H', Raw q → Fr K H' v q → Dr a b H H' → Q v H'
def sp_pair (K : PySem.W.Frag) : Sp := fun vs H Q _ => ∃ a b : Addr, vs = [.ref a] ∧ DealOk H a b ∧ RetP K a b H Q
theorem c_pair {a b : Addr} {H : Hp} {Q : VK} {E : XK} {vs : List V} (e : vs = [.ref a]) (h : DealOk H a b) (q : RetP K a b H Q) : sp_pair K vs H Q E := ⟨a, b, e, h, q⟩
theorem ok_pair (T : Txt K mg) : FnOk P w K mg base CX0 3 T.a_law_pair T.d_law_pair p_law_pair (sp_pair K) := by
  have G_law_great : FnOk P w K mg base CX0 2 T.a_law_great T.d_law_great p_law_great (spI K Gr) := ok_great T
  have G_law_signed : FnOk P w K mg base CX0 2 T.a_law_signed T.d_law_signed p_law_signed (sp_signed K) := ok_signed T
  refine T.f_law_pair.ok sc_law_pair (fun vs H Q E h => ?_) (fun cdv A outer s H vs Q E hr h => ?_)
  · obtain ⟨a, b, rfl, _⟩ := h; rfl
  · obtain ⟨a, b, rfl, hd, k⟩ := h
    refine ⟨_, (pss_cons (ps_set (i := 1) sc_law_pair.nd rfl (.inl rfl) (pe_call G_law_great (hr.mono (by omega)) (by rfl) T.g_law_great T.f_law_great.kp T.b_law_great .nil pass0 (pa_cons (pv 0) pa_nil)))
      (pss_one (ps_ret (pe_tup (pa_cons (pe_call G_law_signed (hr.mono (by omega)) (by rfl) T.g_law_signed T.f_law_signed.kp T.b_law_signed .nil pass0 (pa_cons (pv 0) (pa_cons (pe_call G_law_great (hr.mono (by omega)) (by rfl) T.g_law_great T.f_law_great.kp T.b_law_great .nil pass0 (pa_cons (pv 0) pa_nil)) pa_nil))) (pa_cons (pe_call G_law_signed (hr.mono (by omega)) (by rfl) T.g_law_signed T.f_law_signed.kp T.b_law_signed .nil pass0 (pa_cons (pv 0) (pa_cons (pe_callB (cr_max2 rfl) (by rfl) T.z_max (by decide +kernel) (pa_cons pe_int (pa_cons (pv 1) pa_nil))) pa_nil))) pa_nil)))))), ?_⟩
    walk_at "go0"
    refine c_I rfl hd fun low H1 l0 d1 => ?_
    walk_at "go"
    refine c_I rfl d1.1 fun x H2 x0 d2 => ?_
    walk_at "go"
    refine c_signed rfl d2.1 fun y H3 y0 d3 => ?_
    walk_at "go"
    refine c_signed rfl d3.1 fun z H4 z0 d4 => ?_
    walk_at "go"
    refine r_new (Nat.le_of_ble_eq_true rfl) fun p H5 np => ?_
    obtain ⟨l1, l2⟩ := l0
    obtain ⟨x1, x2⟩ := x0
    have e60 : (((10 : Nat) ^ 60 : Nat) : Int) = (10 : Int) ^ 60 := by decide
    refine k _ (y, z) _ ⟨?_, ?_, ?_⟩ ⟨p, rfl, Tp.new np⟩ ((((d1.trans d2).trans d3).trans d4).nw np)
    · show z ≠ 0
      split at z0 <;> omega
    · show y.natAbs < 10 ^ 60
      omega
    · show z.natAbs < 10 ^ 60
      split at z0 <;> omega
def sp_second (K : PySem.W.Frag) : Sp := fun vs H Q _ => ∃ (a b : Addr) (x : V) (q : Int × Int), vs = [.ref a, x] ∧ DealOk H a b ∧ Fr K H x q ∧ Raw q ∧ RetP K a b H Q
theorem c_second {a b : Addr} {x : V} {q : Int × Int} {H : Hp} {Q : VK} {E : XK} {vs : List V} (e : vs = [.ref a, x]) (h : DealOk H a b) (h1 : Fr K H x q) (h2 : Raw q) (k : RetP K a b H Q) : sp_second K vs H Q E := ⟨a, b, x, q, e, h, h1, h2, k⟩
theorem ok_second (T : Txt K mg) : FnOk P w K mg base CX0 4 T.a_law_second T.d_law_second p_law_second (sp_second K) := by
  have G_law_any : FnOk P w K mg base CX0 1 T.a_law_any T.d_law_any p_law_any (sp_any K) := ok_any T
  have G_law_of : FnOk P w K mg base CX0 2 T.a_law_of T.d_law_of p_law_of (sp_of K) := ok_of T
  have G_law_pair : FnOk P w K mg base CX0 3 T.a_law_pair T.d_law_pair p_law_pair (sp_pair K) := ok_pair T
  refine T.f_law_second.ok sc_law_second (fun vs H Q E h => ?_) (fun cdv A outer s H vs Q E hr h => ?_)
  · obtain ⟨a, b, x, q, rfl, _⟩ := h; rfl
  · obtain ⟨a, b, x, ⟨hi, lw⟩, rfl, hd, ⟨t, rfl, ht⟩, ⟨w0, w1, w2⟩, k⟩ := h
    refine ⟨_, (pss_cons (ps_par (i := 2) (j := 3) rfl sc_law_second.nd rfl rfl (by decide) rfl rfl (pa_cons (pe_call G_law_any (hr.mono (by omega)) (by rfl) T.g_law_any T.f_law_any.kp T.b_law_any .nil pass0 (pa_cons (pv 0) (pa_cons pe_int pa_nil))) (pa_cons (pe_op op_add pe_int (pe_call G_law_any (hr.mono (by omega)) (by rfl) T.g_law_any T.f_law_any.kp T.b_law_any .nil pass0 (pa_cons (pv 0) (pa_cons (pe_op op_pow pe_int pe_int) pa_nil)))) pa_nil)) (by rfl))
      (pss_cons (ps_asg (pv 1) (pg_tup (n := 2) rfl (pgs_cons (pg_name (i := 4) sc_law_second.nd rfl (.inl rfl)) (pgs_cons (pg_name (i := 5) sc_law_second.nd rfl (.inl rfl)) pgs_nil))))
      (pss_cons (ps_if (PW.pt (pw_and (pt_cmpR (op_inK K) (pv 2) (pe_lst (pa_cons pe_int (pa_cons pe_int (pa_cons pe_int pa_nil)))) (by with_unfolding_all rfl)) (pw_and1 (pt_cmpR op_ge (pe_callB (cr_max2 rfl) (by rfl) T.z_max (by decide +kernel) (pa_cons (pe_callB cr_abs (by rfl) T.z_abs (by decide +kernel) (pa_cons (pv 4) pa_nil)) (pa_cons (pe_callB cr_abs (by rfl) T.z_abs (by decide +kernel) (pa_cons (pv 5) pa_nil)) pa_nil))) (pe_op op_pow pe_int pe_int) (nomark _)))))
        (pss_one (ps_ret (pe_call G_law_pair (hr.mono (by omega)) (by rfl) T.g_law_pair T.f_law_pair.kp T.b_law_pair .nil pass0 (pa_cons (pv 0) pa_nil)))) pss_nil)
      (pss_cons (ps_if (pt_cmpR op_eq (pv 2) pe_int (nomark _))
        (pss_one (ps_ret (pe_tup (pa_cons (pe_op op_mulZ (pv 4) (pv 3)) (pa_cons (pe_op op_mulZ (pv 5) (pv 3)) pa_nil))))) pss_nil)
      (pss_cons (ps_if (pt_cmpR op_eq (pv 2) pe_int (nomark _))
        (pss_one (ps_ret (pe_tup (pa_cons (pe_un un_neg (pv 4)) (pa_cons (pv 5) pa_nil))))) pss_nil)
      (pss_cons (ps_if (PW.pt (pw_and (pt_cmpR op_eq (pv 2) pe_int (nomark _)) (pw_and1 (pt_cmpR op_ne (pv 4) pe_int (nomark _)))))
        (pss_one (ps_ret (pe_tup (pa_cons (pv 5) (pa_cons (pv 4) pa_nil))))) pss_nil)
      (pss_cons (ps_if (pt_cmpR op_eq (pv 2) pe_int (nomark _))
        (pss_one (ps_ret (pe_tup (pa_cons (pe_op op_add (pe_op op_mulZ (pv 4) (pv 3)) pe_int) (pa_cons (pe_op op_mulZ (pv 5) (pv 3)) pa_nil))))) pss_nil)
      (pss_cons (ps_if (pt_cmpR op_eq (pv 2) pe_int (nomark _))
        (pss_one (ps_ret (pe_tup (pa_cons (pe_op op_sub (pe_op op_mulZ (pv 4) (pv 3)) pe_int) (pa_cons (pe_op op_mulZ (pv 5) (pv 3)) pa_nil))))) pss_nil)
      (pss_cons (ps_if (pt_cmpR op_eq (pv 2) pe_int (nomark _))
        (pss_one (ps_ret (pe_call G_law_of (hr.mono (by omega)) (by rfl) T.g_law_of T.f_law_of.kp T.b_law_of .nil pass0 (pa_cons (pv 0) (pa_cons (pe_lst (pa_cons (pe_tup (pa_cons pe_int (pa_cons (pe_un un_neg pe_int) pa_nil))) (pa_cons (pe_tup (pa_cons pe_int (pa_cons pe_int pa_nil))) (pa_cons (pe_tup (pa_cons (pe_un un_neg pe_int) (pa_cons pe_int pa_nil))) (pa_cons (pe_tup (pa_cons pe_int (pa_cons (pe_un un_neg pe_int) pa_nil))) pa_nil))))) pa_nil))))) pss_nil)
      (pss_one (ps_ret (pe_call G_law_pair (hr.mono (by omega)) (by rfl) T.g_law_pair T.f_law_pair.kp T.b_law_pair .nil pass0 (pa_cons (pv 0) pa_nil))))))))))))), ?_⟩
    dsimp only at ht w0 w1 w2
    have p6 : ((10 : Int) ^ (6 : Int).toNat) = 1000000 := by decide
    walk_at "go0"
    refine c_any rfl hd (by decide) (by decide +kernel) fun r H1 r0 r1 d1 => ?_
    walk_at "go"
    · rw [p6]
      refine c_any rfl d1.1 (by decide) (by decide +kernel) fun u H2 u0 u1 d2 => ?_
      have d12 := d1.trans d2
      have tk2 := d12.2.2
      walk_at "g"
      refine l_if (fun σ' H' => σ' = [some (.ref a), some (.ref t), some (.int r), some (.int (1 + u)), some (.int hi), some (.int lw)] ∧ Dr a b H H' ∧ (r = 0 ∨ r = 3 ∨ r = 4 → hi.natAbs < 10 ^ 53 ∧ lw.natAbs < 10 ^ 53)) (fun nx hnx => ?_) fun σ' H' hP => ?_
      · walk_at "go"
        · refine r_new (Nat.le_of_ble_eq_true rfl) fun p H3 np => ?_
          walk_at "go"
          refine r_inL (SqL.of np.at) rfl rfl ?_
          have ei : inV (.int r) [.int 0, .int 3, .int 4] = decide (r ∈ [0, 3, 4]) := inI r [0, 3, 4]
          rw [ei]
          walk_at "go"
          have d3 := d12.nw np
          refine r_dec (fun hc => ?_) (fun hc => ?_)
          · walk_at "go"
            · refine r_dec (fun hc2 => ?_) (fun hc2 => ?_)
              · walk_at "go"
                refine c_pair rfl d3.1 fun v q H4 hR hF hD => k v q H4 hR hF (d3.trans hD)
              · refine hnx _ _ ⟨rfl, d3, fun _ => ?_⟩
                have e53 : (10 : Int) ^ (53 : Int).toNat = ((10 ^ 53 : Nat) : Int) := by decide
                rw [e53] at hc2
                split at hc2 <;> split at hc2 <;> split at hc2 <;> omega
            all_goals walk_at "im"
          · walk_at "go"
            refine hnx _ _ ⟨rfl, d3, fun h => absurd ?_ hc⟩
            rcases h with rfl | rfl | rfl <;> decide
      · obtain ⟨rfl, d3, hsm⟩ := hP
        have u1' : (1 + u).natAbs ≤ 1000000 := by omega
        have bnd : ∀ z : Int, z.natAbs < 10 ^ 53 → (z * (1 + u)).natAbs < 10 ^ 59 := fun z hz => by
          rw [Int.natAbs_mul]
          calc z.natAbs * (1 + u).natAbs ≤ z.natAbs * 1000000 := Nat.mul_le_mul_left _ u1'
            _ < 10 ^ 59 := by omega
        have nz : lw * (1 + u) ≠ 0 := Int.mul_ne_zero w0 (by omega)
        have mu2 : ∀ z : Int, IntMulOk z (1 + u) := fun z => mulC ⟨by omega, by omega⟩
        walk_at "go"
        refine r_dec (fun hc => ?_) (fun hc => ?_)
        · obtain ⟨s1, s2⟩ := hsm (.inl hc)
          walk_at "go"
          · refine r_new (Nat.le_of_ble_eq_true rfl) fun p H4 np => ?_
            have b1 := bnd _ s1
            have b2 := bnd _ s2
            exact k _ (hi * (1 + u), lw * (1 + u)) _ ⟨nz, by show (hi * (1 + u)).natAbs < _; omega, by show (lw * (1 + u)).natAbs < _; omega⟩ ⟨p, rfl, Tp.new np⟩ (d3.nw np)
          all_goals exact mu2 _
        walk_at "go"
        refine r_dec (fun hc => ?_) (fun hc => ?_)
        · walk_at "go"
          refine r_new (Nat.le_of_ble_eq_true rfl) fun p H4 np => ?_
          exact k _ (-hi, lw) _ ⟨w0, by show (-hi).natAbs < _; omega, w2⟩ ⟨p, rfl, Tp.new np⟩ (d3.nw np)
        walk_at "g"
        refine l_if (fun σ' H' => σ' = [some (.ref a), some (.ref t), some (.int r), some (.int (1 + u)), some (.int hi), some (.int lw)] ∧ Dr a b H H') (fun nx hnx => ?_) fun σ' H' hP => ?_
        · walk_at "go"
          refine r_dec (fun hc => ?_) (fun hc => ?_)
          · walk_at "go"
            refine r_ndec (fun hc2 => ?_) (fun hc2 => ?_)
            · walk_at "go"
              refine r_new (Nat.le_of_ble_eq_true rfl) fun p H4 np => ?_
              exact k _ (lw, hi) _ ⟨hc2, w2, w1⟩ ⟨p, rfl, Tp.new np⟩ (d3.nw np)
            · walk_at "go"
              exact hnx _ _ ⟨rfl, d3⟩
          · walk_at "go"
            exact hnx _ _ ⟨rfl, d3⟩
        · obtain ⟨rfl, d4⟩ := hP
          walk_at "go"
          refine r_dec (fun hc => ?_) (fun hc => ?_)
          · obtain ⟨s1, s2⟩ := hsm (.inr (.inl hc))
            walk_at "go"
            · refine r_new (Nat.le_of_ble_eq_true rfl) fun p H4 np => ?_
              have b1 := bnd _ s1
              have b2 := bnd _ s2
              exact k _ (hi * (1 + u) + 1, lw * (1 + u)) _ ⟨nz, by show (hi * (1 + u) + 1).natAbs < _; omega, by show (lw * (1 + u)).natAbs < _; omega⟩ ⟨p, rfl, Tp.new np⟩ (d4.nw np)
            all_goals exact mu2 _
          walk_at "go"
          refine r_dec (fun hc => ?_) (fun hc => ?_)
          · obtain ⟨s1, s2⟩ := hsm (.inr (.inr hc))
            walk_at "go"
            · refine r_new (Nat.le_of_ble_eq_true rfl) fun p H4 np => ?_
              have b1 := bnd _ s1
              have b2 := bnd _ s2
              exact k _ (hi * (1 + u) - 1, lw * (1 + u)) _ ⟨nz, by show (hi * (1 + u) - 1).natAbs < _; omega, by show (lw * (1 + u)).natAbs < _; omega⟩ ⟨p, rfl, Tp.new np⟩ (d4.nw np)
            all_goals exact mu2 _
          walk_at "go"
          refine r_dec (fun hc => ?_) (fun hc => ?_)
          · walk_at "go"
            refine r_new (Nat.le_of_ble_eq_true rfl) fun p1 H4 n1 => ?_
            walk_at "go"
            refine r_new (Nat.le_of_ble_eq_true rfl) fun p2 H5 n2 => ?_
            walk_at "go"
            refine r_new (Nat.le_of_ble_eq_true rfl) fun p3 H6 n3 => ?_
            walk_at "go"
            refine r_new (Nat.le_of_ble_eq_true rfl) fun p4 H7 n4 => ?_
            walk_at "go"
            refine r_new (Nat.le_of_ble_eq_true rfl) fun p5 H8 n5 => ?_
            have d8 := (((d4.nw n1).nw n2).nw n3).nw n4
            have d9 := d8.nw n5
            walk_at "go"
            refine c_of rfl d9.1 n5.at (d8.1.new n5) (Nat.le_of_ble_eq_true rfl) (Nat.le_of_ble_eq_true rfl) fun y H9 hy dy => ?_
            have tp1 : Tp K H9 p1 _ := ((Tp.new n1).keep (TK.of (((n2.same.trans n3.same).trans n4.same).trans n5.same))).keep dy.2.2
            have tp2 : Tp K H9 p2 _ := ((Tp.new n2).keep (TK.of ((n3.same.trans n4.same).trans n5.same))).keep dy.2.2
            have tp3 : Tp K H9 p3 _ := ((Tp.new n3).keep (TK.of (n4.same.trans n5.same))).keep dy.2.2
            have tp4 : Tp K H9 p4 _ := ((Tp.new n4).keep (TK.of n5.same)).keep dy.2.2
            rcases List.mem_cons.mp hy with rfl | hy
            · exact k _ (0, -3) _ ⟨by decide, by decide, by decide⟩ ⟨_, rfl, tp1⟩ (d9.trans dy)
            rcases List.mem_cons.mp hy with rfl | hy
            · exact k _ (1, 1) _ ⟨by decide, by decide, by decide⟩ ⟨_, rfl, tp2⟩ (d9.trans dy)
            rcases List.mem_cons.mp hy with rfl | hy
            · exact k _ (-1, 1) _ ⟨by decide, by decide, by decide⟩ ⟨_, rfl, tp3⟩ (d9.trans dy)
            rcases List.mem_cons.mp hy with rfl | hy
            · exact k _ (2, -2) _ ⟨by decide, by decide, by decide⟩ ⟨_, rfl, tp4⟩ (d9.trans dy)
            cases hy
          · walk_at "go"
            exact c_pair rfl d4.1 fun v q H4 hR hF hD => k v q H4 hR hF (d4.trans hD)
    all_goals walk_at "im"
def ord2 (p q : Int × Int) : Int := (if q.1 * p.2 < p.1 * q.2 then 1 else 0) - (if p.1 * q.2 < q.1 * p.2 then 1 else 0)
theorem ord_sgn (p q : Int × Int) : ord2 p q = sgn2 p q := by
  unfold ord2 sgn2
  split <;> split <;> (try omega) <;> rfl
theorem ord_neg (p q : Int × Int) : sgn2 q p = -sgn2 p q := by
  unfold sgn2
  split <;> split <;> omega
def sp_order (K : PySem.W.Frag) : Sp := fun vs H Q _ => ∃ x y p q, vs = [x, y] ∧ FrB K H x p 3000 ∧ FrB K H y q 3000 ∧ ∀ H', Same H H' → Q (.int (ord2 p q)) H'
theorem ok_order (T : Txt K mg) : FnOk P w K mg base CX0 1 T.a_law_order T.d_law_order p_law_order (sp_order K) := by
  refine T.f_law_order.ok sc_law_order (fun vs H Q E h => ?_) (fun cdv A outer s H vs Q E hr h => ?_)
  · obtain ⟨x, y, p, q, rfl, _⟩ := h; rfl
  · obtain ⟨x, y, ⟨p1, p2⟩, ⟨q1, q2⟩, rfl, ⟨⟨a, rfl, ha⟩, a1, a2⟩, ⟨⟨b, rfl, hb⟩, b1, b2⟩, k⟩ := h
    refine ⟨_, (pss_cons (ps_par (i := 2) (j := 3) rfl sc_law_order.nd rfl rfl (by decide) rfl rfl (pa_cons (pe_op op_mulZ (pe_ix (ix_sqK K) (pv 0) pe_int (fun _ _ => rfl)) (pe_ix (ix_sqK K) (pv 1) pe_int (fun _ _ => rfl))) (pa_cons (pe_op op_mulZ (pe_ix (ix_sqK K) (pv 1) pe_int (fun _ _ => rfl)) (pe_ix (ix_sqK K) (pv 0) pe_int (fun _ _ => rfl))) pa_nil)) (by rfl))
      (pss_one (ps_ret (pe_op op_sub (pe_callTy cr_int (by rfl) T.z_int (by decide +kernel) (pa_cons (pe_cmpR op_gt (pv 2) (pv 3) (nomark _)) pa_nil)) (pe_callTy cr_int (by rfl) T.z_int (by decide +kernel) (pa_cons (pe_cmpR op_lt (pv 2) (pv 3) (nomark _)) pa_nil)))))), ?_⟩
    have kk := k H (Same.refl H)
    unfold ord2 at kk
    dsimp only at *
    walk_at "go0"
    · show Q (.int ((if decide (q1 * p2 < p1 * q2) = true then 1 else 0) - (if decide (p1 * q2 < q1 * p2) = true then 1 else 0))) H
      simp only [decide_eq_true_eq]
      exact kk
    all_goals walk_at "im"
end
end Al

set_option Elab.async false
set_option linter.all false
set_option pp.maxSteps 2000
set_option maxRecDepth 100000
set_option maxHeartbeats 4000000
set_option exponentiation.threshold 20000
open PySem PySem.Spec PyProof.Rows L2 Al
namespace Al
theorem bd8 {i j : Int} (h : i.natAbs < 2 ^ 6000) (h' : j.natAbs < 2 ^ 6000) : (i - j).natAbs < 2 ^ 8000 := by
  have : (i - j) = i + -j := by omega
  rw [this]
  exact bs8 h (by rw [Int.natAbs_neg]; exact h')
theorem raw_small {r : Int × Int} (h : Raw r) : r.1.natAbs < 2 ^ 8000 ∧ r.2.natAbs < 2 ^ 8000 := by
  have e : (10 : Nat) ^ 60 < 2 ^ 200 := by decide
  have e2 : (2 : Nat) ^ 200 < 2 ^ 8000 := Nat.pow_lt_pow_right (by decide) (by decide)
  exact ⟨Nat.lt_trans (Nat.lt_trans h.2.1 e) e2, Nat.lt_trans (Nat.lt_trans h.2.2 e) e2⟩
theorem raw_lo {r : Int × Int} (h : Raw r) : 0 < (lo r.1 r.2).2 ∧ (lo r.1 r.2).1.natAbs < 2 ^ 200 ∧ (lo r.1 r.2).2.natAbs < 2 ^ 200 := by
  have e : (10 : Nat) ^ 60 < 2 ^ 200 := by decide
  exact ⟨lo_den h.1, Nat.lt_of_le_of_lt (lo_le1 h.1) (Nat.lt_trans h.2.1 e), Nat.lt_of_le_of_lt (lo_le2 h.1) (Nat.lt_trans h.2.2 e)⟩
theorem up3 {n : Nat} (h : n < 2 ^ 200) : n < 2 ^ 3000 := Nat.lt_trans h (Nat.pow_lt_pow_right (by decide) (by decide))
theorem bm0 {i j : Int} {H H1 : Hp} {p : Addr} {o : HO} (h : Mu p o H H1) (xs ys : List V) (e : H p = some (.lst xs)) {a : Addr} (q : H a = some (.tup ys)) : H1 a = some (.tup ys) := h.tk e _ _ q
section
variable {P : Program} {w : World} {K : PySem.W.Frag} {mg : Str → Option Value} {base : Heap}
/-- a draw that ends with True -/
def spT (K : PySem.W.Frag) : Sp := fun vs H Q _ => ∃ a b : Addr, vs = [.ref a] ∧ DealOk H a b ∧ ∀ H', Dr a b H H' → Q (.bl true) H'
theorem c_T {a b : Addr} {H : Hp} {Q : VK} {E : XK} {vs : List V} (e : vs = [.ref a]) (h : DealOk H a b) (q : ∀ H', Dr a b H H' → Q (.bl true) H') : spT K vs H Q E := ⟨a, b, e, h, q⟩
theorem c_order {x y : V} {p q : Int × Int} {H : Hp} {Q : VK} {E : XK} {vs : List V} (e : vs = [x, y]) (h1 : FrB K H x p 3000) (h2 : FrB K H y q 3000) (k : ∀ H', Same H H' → Q (.int (ord2 p q)) H') : sp_order K vs H Q E := ⟨x, y, p, q, e, h1, h2, k⟩
theorem c_compared {x y : V} {p q : Int × Int} {H : Hp} {Q : VK} {E : XK} {vs : List V} (e : vs = [x, y]) (h1 : FrB K H x p 3000) (h2 : FrB K H y q 3000) (k : ∀ H', Same H H' → Q (.int (sgn2 p q)) H') : sp_compared K vs H Q E := ⟨x, y, p, q, e, h1, h2, k⟩
theorem ok_two (T : Txt K mg) : FnOk P w K mg base CX0 5 T.a_law_two_hold T.d_law_two_hold p_law_two_hold (spT K) := by
  have G_law_pair : FnOk P w K mg base CX0 3 T.a_law_pair T.d_law_pair p_law_pair (sp_pair K) := ok_pair T
  have G_law_second : FnOk P w K mg base CX0 4 T.a_law_second T.d_law_second p_law_second (sp_second K) := ok_second T
  have G_law_lowest : FnOk P w K mg base CX0 1 T.a_law_lowest T.d_law_lowest p_law_lowest (sp_lowest K) := ok_law_lowest T
  have G_law_same : FnOk P w K mg base CX0 2 T.a_law_same T.d_law_same p_law_same (sp_same K 1) := ok_same T 1
  have G_fraction : FnOk P w K mg base CX0 2 T.a_fraction T.d_fraction p_fraction (sp_lowest K) := ok_fraction T
  have G_added : FnOk P w K mg base CX0 2 T.a_added T.d_added p_added (spF2 K (fun _ _ => True) add2) := ok_added T
  have G_less : FnOk P w K mg base CX0 3 T.a_less T.d_less p_less (spF2 K (fun _ _ => True) sub2) := ok_less T
  have G_multiplied : FnOk P w K mg base CX0 2 T.a_multiplied T.d_multiplied p_multiplied (spF2 K (fun _ _ => True) mul2) := ok_multiplied T
  have G_divided : FnOk P w K mg base CX0 2 T.a_divided T.d_divided p_divided (spF2 K (fun _ q => q.1 ≠ 0) div2) := ok_divided T
  have G_law_order : FnOk P w K mg base CX0 1 T.a_law_order T.d_law_order p_law_order (sp_order K) := ok_order T
  have G_compared : FnOk P w K mg base CX0 1 T.a_compared T.d_compared p_compared (sp_compared K) := ok_compared T
  refine T.f_law_two_hold.ok sc_law_two_hold (fun vs H Q E h => ?_) (fun cdv A outer s H vs Q E hr h => ?_)
  · obtain ⟨a, b, rfl, _⟩ := h; rfl
  · obtain ⟨a, b, rfl, hd, k⟩ := h
    refine ⟨_, (pss_cons (ps_set (i := 1) sc_law_two_hold.nd rfl (.inl rfl) (pe_call G_law_pair (hr.mono (by omega)) (by rfl) T.g_law_pair T.f_law_pair.kp T.b_law_pair .nil pass0 (pa_cons (pv 0) pa_nil)))
      (pss_cons (ps_set (i := 2) sc_law_two_hold.nd rfl (.inl rfl) (pe_call G_law_second (hr.mono (by omega)) (by rfl) T.g_law_second T.f_law_second.kp T.b_law_second .nil pass0 (pa_cons (pv 0) (pa_cons (pv 1) pa_nil))))
      (pss_cons (ps_par (i := 3) (j := 4) rfl sc_law_two_hold.nd rfl rfl (by decide) rfl rfl (pa_cons (pe_call G_law_lowest (hr.mono (by omega)) (by rfl) T.g_law_lowest T.f_law_lowest.kp T.b_law_lowest .nil pass0 (pa_cons (pe_ix (ix_sqK K) (pv 1) pe_int (fun _ _ => rfl)) (pa_cons (pe_ix (ix_sqK K) (pv 1) pe_int (fun _ _ => rfl)) pa_nil))) (pa_cons (pe_call G_law_lowest (hr.mono (by omega)) (by rfl) T.g_law_lowest T.f_law_lowest.kp T.b_law_lowest .nil pass0 (pa_cons (pe_ix (ix_sqK K) (pv 2) pe_int (fun _ _ => rfl)) (pa_cons (pe_ix (ix_sqK K) (pv 2) pe_int (fun _ _ => rfl)) pa_nil))) pa_nil)) (by rfl))
      (pss_cons (ps_if (PW.pt (pw_or (pt_not (pt_val (pe_call G_law_same (hr.mono (by omega)) (by rfl) T.g_law_same T.f_law_same.kp T.b_law_same .nil pass0 (pa_cons (pe_call G_fraction (hr.mono (by omega)) (by rfl) T.g_fraction T.f_fraction.kp T.b_fraction .nil pass0 (pa_cons (pe_ix (ix_sqK K) (pv 1) pe_int (fun _ _ => rfl)) (pa_cons (pe_ix (ix_sqK K) (pv 1) pe_int (fun _ _ => rfl)) pa_nil))) (pa_cons (pv 3) pa_nil))))) (pw_or1 (pt_not (pt_val (pe_call G_law_same (hr.mono (by omega)) (by rfl) T.g_law_same T.f_law_same.kp T.b_law_same .nil pass0 (pa_cons (pe_callK0 G_fraction (hr.mono (by omega)) (by rfl) T.g_fraction T.f_fraction.kp (T.kb_fraction_bottom_top) pass0 (pk_cons (pe_ix (ix_sqK K) (pv 2) pe_int (fun _ _ => rfl)) (pk_cons (pe_ix (ix_sqK K) (pv 2) pe_int (fun _ _ => rfl)) pk_nil))) (pa_cons (pv 4) pa_nil))))))))
        (pss_one (ps_ret pe_bl)) pss_nil)
      (pss_cons (ps_set (i := 5) sc_law_two_hold.nd rfl (.inl rfl) (pe_lst (pa_cons (pe_call G_law_lowest (hr.mono (by omega)) (by rfl) T.g_law_lowest T.f_law_lowest.kp T.b_law_lowest .nil pass0 (pa_cons (pe_op op_add (pe_op op_mulZ (pe_ix (ix_sqK K) (pv 3) pe_int (fun _ _ => rfl)) (pe_ix (ix_sqK K) (pv 4) pe_int (fun _ _ => rfl))) (pe_op op_mulZ (pe_ix (ix_sqK K) (pv 4) pe_int (fun _ _ => rfl)) (pe_ix (ix_sqK K) (pv 3) pe_int (fun _ _ => rfl)))) (pa_cons (pe_op op_mulZ (pe_ix (ix_sqK K) (pv 3) pe_int (fun _ _ => rfl)) (pe_ix (ix_sqK K) (pv 4) pe_int (fun _ _ => rfl))) pa_nil))) (pa_cons (pe_call G_law_lowest (hr.mono (by omega)) (by rfl) T.g_law_lowest T.f_law_lowest.kp T.b_law_lowest .nil pass0 (pa_cons (pe_op op_sub (pe_op op_mulZ (pe_ix (ix_sqK K) (pv 3) pe_int (fun _ _ => rfl)) (pe_ix (ix_sqK K) (pv 4) pe_int (fun _ _ => rfl))) (pe_op op_mulZ (pe_ix (ix_sqK K) (pv 4) pe_int (fun _ _ => rfl)) (pe_ix (ix_sqK K) (pv 3) pe_int (fun _ _ => rfl)))) (pa_cons (pe_op op_mulZ (pe_ix (ix_sqK K) (pv 3) pe_int (fun _ _ => rfl)) (pe_ix (ix_sqK K) (pv 4) pe_int (fun _ _ => rfl))) pa_nil))) pa_nil))))
      (pss_cons (ps_expr (pe_bm PySem.F.plainAttrs_list PySem.F.slot_list_append PySem.F.type_list_append mt_append (pv 5) (pa_cons (pe_call G_law_lowest (hr.mono (by omega)) (by rfl) T.g_law_lowest T.f_law_lowest.kp T.b_law_lowest .nil pass0 (pa_cons (pe_op op_mulZ (pe_ix (ix_sqK K) (pv 3) pe_int (fun _ _ => rfl)) (pe_ix (ix_sqK K) (pv 4) pe_int (fun _ _ => rfl))) (pa_cons (pe_op op_mulZ (pe_ix (ix_sqK K) (pv 3) pe_int (fun _ _ => rfl)) (pe_ix (ix_sqK K) (pv 4) pe_int (fun _ _ => rfl))) pa_nil))) pa_nil)))
      (pss_cons (ps_for PassesOwn.never rfl (pi_range1 rfl T.z_range (pa_cons pe_int pa_nil)) (pg_name (i := 6) sc_law_two_hold.nd rfl (.inl rfl))
        (pss_cons (ps_if (PW.pt (pw_or (pt_not (pt_val (pe_call G_law_same (hr.mono (by omega)) (by rfl) T.g_law_same T.f_law_same.kp T.b_law_same .nil pass0 (pa_cons (pe_call G_added (hr.mono (by omega)) (by rfl) T.g_added T.f_added.kp T.b_added .nil pass0 (pa_cons (pv 3) (pa_cons (pv 4) pa_nil))) (pa_cons (pe_ix (ix_sqK K) (pv 5) pe_int (fun _ _ => rfl)) pa_nil))))) (pw_or (pt_not (pt_val (pe_call G_law_same (hr.mono (by omega)) (by rfl) T.g_law_same T.f_law_same.kp T.b_law_same .nil pass0 (pa_cons (pe_call G_less (hr.mono (by omega)) (by rfl) T.g_less T.f_less.kp T.b_less .nil pass0 (pa_cons (pv 3) (pa_cons (pv 4) pa_nil))) (pa_cons (pe_ix (ix_sqK K) (pv 5) pe_int (fun _ _ => rfl)) pa_nil))))) (pw_or1 (pt_not (pt_val (pe_call G_law_same (hr.mono (by omega)) (by rfl) T.g_law_same T.f_law_same.kp T.b_law_same .nil pass0 (pa_cons (pe_call G_multiplied (hr.mono (by omega)) (by rfl) T.g_multiplied T.f_multiplied.kp T.b_multiplied .nil pass0 (pa_cons (pv 3) (pa_cons (pv 4) pa_nil))) (pa_cons (pe_ix (ix_sqK K) (pv 5) pe_int (fun _ _ => rfl)) pa_nil)))))))))
        (pss_one (ps_ret pe_bl)) pss_nil)
      (pss_cons (ps_if (PW.pt (pw_or (pt_not (pt_val (pe_call G_law_same (hr.mono (by omega)) (by rfl) T.g_law_same T.f_law_same.kp T.b_law_same .nil pass0 (pa_cons (pe_callK0 G_added (hr.mono (by omega)) (by rfl) T.g_added T.f_added.kp (T.kb_added_other_one) pass0 (pk_cons (pv 4) (pk_cons (pv 3) pk_nil))) (pa_cons (pe_ix (ix_sqK K) (pv 5) pe_int (fun _ _ => rfl)) pa_nil))))) (pw_or1 (pt_not (pt_val (pe_call G_law_same (hr.mono (by omega)) (by rfl) T.g_law_same T.f_law_same.kp T.b_law_same .nil pass0 (pa_cons (pe_callK0 G_less (hr.mono (by omega)) (by rfl) T.g_less T.f_less.kp (T.kb_less_other_one) pass0 (pk_cons (pv 4) (pk_cons (pv 3) pk_nil))) (pa_cons (pe_ix (ix_sqK K) (pv 5) pe_int (fun _ _ => rfl)) pa_nil))))))))
        (pss_one (ps_ret pe_bl)) pss_nil)
      (pss_one (ps_if (pt_not (pt_val (pe_call G_law_same (hr.mono (by omega)) (by rfl) T.g_law_same T.f_law_same.kp T.b_law_same .nil pass0 (pa_cons (pe_callK0 G_multiplied (hr.mono (by omega)) (by rfl) T.g_multiplied T.f_multiplied.kp (T.kb_multiplied_other_one) pass0 (pk_cons (pv 3) (pk_cons (pv 4) pk_nil))) (pa_cons (pe_ix (ix_sqK K) (pv 5) pe_int (fun _ _ => rfl)) pa_nil)))))
        (pss_one (ps_ret pe_bl)) pss_nil)))))
      (pss_cons (ps_if (pt_cmpR op_ne (pe_ix (ix_sqK K) (pv 4) pe_int (fun _ _ => rfl)) pe_int (nomark _))
        (pss_cons (ps_set (i := 7) sc_law_two_hold.nd rfl (.inl rfl) (pe_call G_law_lowest (hr.mono (by omega)) (by rfl) T.g_law_lowest T.f_law_lowest.kp T.b_law_lowest .nil pass0 (pa_cons (pe_op op_mulZ (pe_ix (ix_sqK K) (pv 3) pe_int (fun _ _ => rfl)) (pe_ix (ix_sqK K) (pv 4) pe_int (fun _ _ => rfl))) (pa_cons (pe_op op_mulZ (pe_ix (ix_sqK K) (pv 3) pe_int (fun _ _ => rfl)) (pe_ix (ix_sqK K) (pv 4) pe_int (fun _ _ => rfl))) pa_nil))))
      (pss_one (ps_if (PW.pt (pw_or (pt_not (pt_val (pe_call G_law_same (hr.mono (by omega)) (by rfl) T.g_law_same T.f_law_same.kp T.b_law_same .nil pass0 (pa_cons (pe_call G_divided (hr.mono (by omega)) (by rfl) T.g_divided T.f_divided.kp T.b_divided .nil pass0 (pa_cons (pv 3) (pa_cons (pv 4) pa_nil))) (pa_cons (pv 7) pa_nil))))) (pw_or1 (pt_not (pt_val (pe_call G_law_same (hr.mono (by omega)) (by rfl) T.g_law_same T.f_law_same.kp T.b_law_same .nil pass0 (pa_cons (pe_callK0 G_divided (hr.mono (by omega)) (by rfl) T.g_divided T.f_divided.kp (T.kb_divided_other_one) pass0 (pk_cons (pv 4) (pk_cons (pv 3) pk_nil))) (pa_cons (pv 7) pa_nil))))))))
        (pss_one (ps_ret pe_bl)) pss_nil))) pss_nil)
      (pss_cons (ps_set (i := 8) sc_law_two_hold.nd rfl (.inl rfl) (pe_call G_law_order (hr.mono (by omega)) (by rfl) T.g_law_order T.f_law_order.kp T.b_law_order .nil pass0 (pa_cons (pv 3) (pa_cons (pv 4) pa_nil))))
      (pss_cons (ps_if (PW.pt (pw_or (pt_not (pt_val (pe_call G_law_same (hr.mono (by omega)) (by rfl) T.g_law_same T.f_law_same.kp T.b_law_same .nil pass0 (pa_cons (pe_call G_compared (hr.mono (by omega)) (by rfl) T.g_compared T.f_compared.kp T.b_compared .nil pass0 (pa_cons (pv 3) (pa_cons (pv 4) pa_nil))) (pa_cons (pv 8) pa_nil))))) (pw_or1 (pt_not (pt_val (pe_call G_law_same (hr.mono (by omega)) (by rfl) T.g_law_same T.f_law_same.kp T.b_law_same .nil pass0 (pa_cons (pe_callK0 G_compared (hr.mono (by omega)) (by rfl) T.g_compared T.f_compared.kp (T.kb_compared_other_one) pass0 (pk_cons (pv 3) (pk_cons (pv 4) pk_nil))) (pa_cons (pe_un un_neg (pv 8)) pa_nil))))))))
        (pss_one (ps_ret pe_bl)) pss_nil)
      (pss_one (ps_ret (pe_call G_law_same (hr.mono (by omega)) (by rfl) T.g_law_same T.f_law_same.kp T.b_law_same .nil pass0 (pa_cons (pe_call G_compared (hr.mono (by omega)) (by rfl) T.g_compared T.f_compared.kp T.b_compared .nil pass0 (pa_cons (pv 3) (pa_cons (pv 3) pa_nil))) (pa_cons pe_int pa_nil))))))))))))))), ?_⟩
    walk_at "go0"
    refine c_pair rfl hd fun v1 r1 H1 R1 F1 d1 => ?_
    walk_at "go"
    refine c_second rfl d1.1 F1 R1 fun v2 r2 H2 R2 F2 d2 => ?_
    obtain ⟨t1, rfl, T1⟩ := F1
    obtain ⟨t2, rfl, T2⟩ := F2
    have d12 := d1.trans d2
    have tk12 := d2.2.2
    walk_at "go"
    refine c_lowest rfl R1.1 (raw_small R1).1 (raw_small R1).2 fun vx H3 s3 Fx => ?_
    walk_at "go"
    refine c_lowest rfl R2.1 (raw_small R2).1 (raw_small R2).2 fun vy H4 s4 Fy => ?_
    obtain ⟨x0, x1, x2⟩ := raw_lo R1
    obtain ⟨y0, y1, y2⟩ := raw_lo R2
    have Fx0 := Fx
    have Fy0 := Fy
    generalize hp : lo r1.1 r1.2 = p at Fx x0 x1 x2
    generalize hq : lo r2.1 r2.2 = q at Fy y0 y1 y2
    obtain ⟨p1, p2⟩ := p
    obtain ⟨q1, q2⟩ := q
    obtain ⟨tx, rfl, Tx⟩ := Fx
    obtain ⟨ty, rfl, Ty⟩ := Fy
    dsimp only at x0 x1 x2 y0 y1 y2 Tx Ty
    replace x1 := up3 x1
    replace x2 := up3 x2
    replace y1 := up3 y1
    replace y2 := up3 y2
    walk_at "go"
    -- fraction(raw[0], raw[1])
    refine c_lowest rfl R1.1 (raw_small R1).1 (raw_small R1).2 fun v H5 s5 F5 => ?_
    walk_at "go"
    refine c_same rfl (F5.sm (by walk_at "fr") rfl) fun H6 s6 => ?_
    walk_at "go"
    refine c_lowest rfl R2.1 (raw_small R2).1 (raw_small R2).2 fun v H7 s7 F7 => ?_
    walk_at "go"
    refine c_same rfl (F7.sm (by walk_at "fr") rfl) fun H8 s8 => ?_
    walk_at "go"
    -- dues
    · refine c_lowest rfl (mul_pos0 x0 y0) (bs8 (bm x1 y2) (bm y1 x2)) (bm8 x2 y2) fun v0 H9 s9 F9 => ?_
      walk_at "go"
      · refine c_lowest rfl (mul_pos0 x0 y0) (bd8 (bm x1 y2) (bm y1 x2)) (bm8 x2 y2) fun w0 H10 s10 F10 => ?_
        walk_at "go"
        refine r_new (Nat.le_of_ble_eq_true rfl) fun D H11 n11 => ?_
        walk_at "go"
        · refine c_lowest rfl (mul_pos0 x0 y0) (bm8 x1 y1) (bm8 x2 y2) fun u0 H12 s12 F12 => ?_
          walk_at "go"
          refine r_app (n11.at |> s12 _ _) (Nat.le_of_ble_eq_true rfl) fun H13 m13 => ?_
          have dD : Dr a b H H12 := ((d12.same ((((((((s3.trans s4).trans s5).trans s6).trans s7).trans s8).trans s9).trans s10))).nw n11).same s12
          have nD : H D = none := by
            refine Dr.free (d12.same ((((((((s3.trans s4).trans s5).trans s6).trans s7).trans s8).trans s9).trans s10))) n11.1
          have d13 : Dr a b H H13 := dD.mu hd m13 nD
          have tk13 : TK H12 H13 := m13.tk (n11.at |> s12 _ _)
          have e0 : lo (p1 * q2 + q1 * p2) (p2 * q2) = add2 (p1, p2) (q1, q2) := rfl
          have e1 : lo (p1 * q2 - q1 * p2) (p2 * q2) = sub2 (p1, p2) (q1, q2) := by
            show _ = lo (p1 * q2 + -q1 * p2) (p2 * q2)
            rw [Int.neg_mul, ← Int.sub_eq_add_neg]
          have e2 : lo (p1 * q1) (p2 * q2) = mul2 (p1, p2) (q1, q2) := rfl
          rw [e0] at F9
          rw [e1] at F10
          rw [e2] at F12
          have G0 : Fr K H13 v0 (add2 (p1, p2) (q1, q2)) := by walk_at "fr"
          have G1 : Fr K H13 w0 (sub2 (p1, p2) (q1, q2)) := by walk_at "fr"
          have G2 : Fr K H13 u0 (mul2 (p1, p2) (q1, q2)) := by walk_at "fr"
          have X3 : Tp K H13 tx [.int p1, .int p2] := by walk_at "tp"
          have Y3 : Tp K H13 ty [.int q1, .int q2] := by walk_at "tp"
          have D3 : H13 D = some (.lst [v0, w0, u0]) := m13.at
          clear F9 F10 F12 Tx Ty T1 T2 F5 F7 Fx0 Fy0 tk13 dD nD m13
          walk_at "g"
          refine l_range1 (by decide) (by decide) (fun i σ' H' => ∃ y6, σ' = [some (.ref a), some (.ref t1), some (.ref t2), some (.ref tx), some (.ref ty), some (.ref D), y6, none, none] ∧ Same H13 H') ⟨_, rfl, Same.refl _⟩ (fun i σ' H' hi p => ?_) fun σ' H' p => ?_
          · obtain ⟨y6, rfl, sh⟩ := p
            have gx : FrB K H' (.ref tx) (p1, p2) 3000 := ⟨⟨tx, rfl, X3.keep (TK.of sh)⟩, x1, x2⟩
            have gy : FrB K H' (.ref ty) (q1, q2) 3000 := ⟨⟨ty, rfl, Y3.keep (TK.of sh)⟩, y1, y2⟩
            have g0 := G0.keep (TK.of sh)
            have g1 := G1.keep (TK.of sh)
            have g2 := G2.keep (TK.of sh)
            have gD := sh _ _ D3
            clear G0 G1 G2 X3 Y3 D3
            walk_at "go"
            refine c_F2 rfl gx gy x0 y0 trivial fun v J1 j1 f1 => ?_
            walk_at "go"
            refine c_same rfl (f1.sm (by walk_at "fr") rfl) fun J2 j2 => ?_
            walk_at "go"
            refine c_F2 rfl ⟨by exact gx.1.keep (TK.of (j1.trans j2)), x1, x2⟩ ⟨by exact gy.1.keep (TK.of (j1.trans j2)), y1, y2⟩ x0 y0 trivial fun v J3 j3 f3 => ?_
            walk_at "go"
            refine c_same rfl (f3.sm (by walk_at "fr") rfl) fun J4 j4 => ?_
            walk_at "go"
            have k4 : Same H' J4 := ((j1.trans j2).trans j3).trans j4
            refine c_F2 rfl ⟨by exact gx.1.keep (TK.of k4), x1, x2⟩ ⟨by exact gy.1.keep (TK.of k4), y1, y2⟩ x0 y0 trivial fun v J5 j5 f5 => ?_
            walk_at "go"
            refine c_same rfl (f5.sm (by walk_at "fr") rfl) fun J6 j6 => ?_
            walk_at "go"
            have k6 : Same H' J6 := (k4.trans j5).trans j6
            have gx6 : FrB K J6 (.ref tx) (p1, p2) 3000 := ⟨gx.1.keep (TK.of k6), x1, x2⟩
            have gy6 : FrB K J6 (.ref ty) (q1, q2) 3000 := ⟨gy.1.keep (TK.of k6), y1, y2⟩
            refine c_F2 rfl gx6 gy6 x0 y0 trivial fun v J7 j7 f7 => ?_
            walk_at "go"
            refine c_same rfl (f7.sm (by walk_at "fr") rfl) fun J8 j8 => ?_
            walk_at "go"
            have k8 : Same H' J8 := (k6.trans j7).trans j8
            have gx8 : FrB K J8 (.ref tx) (p1, p2) 3000 := ⟨gx.1.keep (TK.of k8), x1, x2⟩
            have gy8 : FrB K J8 (.ref ty) (q1, q2) 3000 := ⟨gy.1.keep (TK.of k8), y1, y2⟩
            refine c_F2 rfl gx8 gy8 x0 y0 trivial fun v J9 j9 f9 => ?_
            walk_at "go"
            refine c_same rfl (f9.sm (by walk_at "fr") rfl) fun J10 j10 => ?_
            walk_at "go"
            have k10 : Same H' J10 := (k8.trans j9).trans j10
            have gx10 : FrB K J10 (.ref tx) (p1, p2) 3000 := ⟨gx.1.keep (TK.of k10), x1, x2⟩
            have gy10 : FrB K J10 (.ref ty) (q1, q2) 3000 := ⟨gy.1.keep (TK.of k10), y1, y2⟩
            -- multiplied(other=x, one=y)
            refine c_F2 rfl gy10 gx10 y0 x0 trivial fun v J11 j11 f11 => ?_
            walk_at "go"
            have em : mul2 (q1, q2) (p1, p2) = mul2 (p1, p2) (q1, q2) := by
              show lo (q1 * p1) (q2 * p2) = lo (p1 * q1) (p2 * q2)
              rw [Int.mul_comm q1, Int.mul_comm q2]
            refine c_same rfl (f11.sm (by walk_at "fr") em) fun J12 j12 => ?_
            walk_at "go"
            exact ⟨_, rfl, sh.trans ((k10.trans j11).trans j12)⟩
          · obtain ⟨y6, rfl, sh⟩ := p
            have gx : FrB K H' (.ref tx) (p1, p2) 3000 := ⟨⟨tx, rfl, X3.keep (TK.of sh)⟩, x1, x2⟩
            have gy : FrB K H' (.ref ty) (q1, q2) 3000 := ⟨⟨ty, rfl, Y3.keep (TK.of sh)⟩, y1, y2⟩
            have tx' := X3.keep (TK.of sh)
            have ty' := Y3.keep (TK.of sh)
            have dh := d13.same sh
            clear G0 G1 G2 X3 Y3 D3
            walk_at "g"
            refine l_if (fun σ' H2 => ∃ y7, σ' = [some (.ref a), some (.ref t1), some (.ref t2), some (.ref tx), some (.ref ty), some (.ref D), y6, y7, none] ∧ Same H' H2) (fun nx hnx => ?_) fun σ' H2 p => ?_
            · walk_at "go"
              refine r_ndec (fun hc => ?_) (fun hc => ?_)
              · walk_at "go"
                · refine c_lowest rfl (Int.mul_ne_zero (by omega) hc) (bm8 x1 y2) (bm8 x2 y1) fun v J1 j1 f1 => ?_
                  walk_at "go"
                  refine c_F2 rfl ⟨by exact gx.1.keep (TK.of j1), x1, x2⟩ ⟨by exact gy.1.keep (TK.of j1), y1, y2⟩ x0 y0 hc fun v J2 j2 f2 => ?_
                  walk_at "go"
                  refine c_same rfl (f2.sm (by walk_at "fr") rfl) fun J3 j3 => ?_
                  walk_at "go"
                  have k3 : Same H' J3 := (j1.trans j2).trans j3
                  refine c_F2 rfl ⟨by exact gx.1.keep (TK.of k3), x1, x2⟩ ⟨by exact gy.1.keep (TK.of k3), y1, y2⟩ x0 y0 hc fun v J4 j4 f4 => ?_
                  walk_at "go"
                  refine c_same rfl (f4.sm (f1.keep (TK.of ((j2.trans j3).trans j4))) rfl) fun J5 j5 => ?_
                  walk_at "go"
                  exact hnx _ _ ⟨_, rfl, (k3.trans j4).trans j5⟩
                all_goals walk_at "im"
              · walk_at "go"
                exact hnx _ _ ⟨_, rfl, Same.refl _⟩
            · obtain ⟨y7, rfl, sk⟩ := p
              have gx2 : FrB K H2 (.ref tx) (p1, p2) 3000 := ⟨gx.1.keep (TK.of sk), x1, x2⟩
              have gy2 : FrB K H2 (.ref ty) (q1, q2) 3000 := ⟨gy.1.keep (TK.of sk), y1, y2⟩
              walk_at "go"
              refine c_order rfl gx2 gy2 fun J1 j1 => ?_
              walk_at "go"
              refine c_compared rfl ⟨by exact gx2.1.keep (TK.of j1), x1, x2⟩ ⟨by exact gy2.1.keep (TK.of j1), y1, y2⟩ fun J2 j2 => ?_
              walk_at "go"
              refine c_same rfl (Sm.int (ord_sgn _ _).symm) fun J3 j3 => ?_
              walk_at "go"
              have k3 : Same H2 J3 := (j1.trans j2).trans j3
              refine c_compared rfl ⟨by exact gy2.1.keep (TK.of k3), y1, y2⟩ ⟨by exact gx2.1.keep (TK.of k3), x1, x2⟩ fun J4 j4 => ?_
              walk_at "go"
              refine c_same rfl (Sm.int (by rw [ord_sgn, ord_neg])) fun J5 j5 => ?_
              walk_at "go"
              have k5 : Same H2 J5 := (k3.trans j4).trans j5
              refine c_compared rfl ⟨by exact gx2.1.keep (TK.of k5), x1, x2⟩ ⟨by exact gx2.1.keep (TK.of k5), x1, x2⟩ fun J6 j6 => ?_
              walk_at "go"
              refine c_same rfl (Sm.int (by unfold sgn2; rw [if_neg (by omega), if_neg (by omega)])) fun J7 j7 => ?_
              exact k _ (((dh.same sk).same k5).same (j6.trans j7))
        all_goals walk_at "im"
      all_goals walk_at "im"
    all_goals walk_at "im"
end
end Al

set_option Elab.async false
set_option linter.all false
set_option pp.maxSteps 2000
set_option maxRecDepth 100000
set_option maxHeartbeats 4000000
set_option exponentiation.threshold 20000
open PySem PySem.Spec PyProof.Rows L2 Al
namespace Al
theorem FrL.snoc {K : PySem.W.Frag} {H : Hp} {vs : List V} {qs : List (Int × Int)} {v : V} {q : Int × Int} (h : FrL K H vs qs) (f : Fr K H v q) : FrL K H (vs ++ [v]) (qs ++ [q]) := by
  refine ⟨by rw [List.length_append, List.length_append, h.1]; rfl, fun i w e => ?_⟩
  by_cases hi : i < vs.length
  · rw [List.getElem?_append_left hi] at e
    obtain ⟨p, e1, e2⟩ := h.2 i w e
    refine ⟨p, ?_, e2⟩
    rw [List.getElem?_append_left (by rw [← h.1]; exact hi)]
    exact e1
  · rw [List.getElem?_append_right (by omega)] at e
    have hl := h.1
    cases hj : i - vs.length with
    | zero =>
      rw [hj] at e
      cases e
      refine ⟨q, ?_, f⟩
      rw [List.getElem?_append_right (by omega), ← hl, hj]
      rfl
    | succ j => rw [hj] at e; cases e
theorem FrL.nil {K : PySem.W.Frag} {H : Hp} : FrL K H [] [] := ⟨rfl, fun i v e => by simp at e⟩
/-- two tuples of the same pairs -/
theorem FrL.sm {K : PySem.W.Frag} {H : Hp} {vs : List V} {qs : List (Int × Int)} {a b : Addr} (h : FrL K H vs qs) (ha : Tp K H a vs) (hb : Tp K H b vs) (hl : vs.length ≤ 100000) : Sm K H 2 (.ref a) (.ref b) :=
  .inr ⟨a, b, vs, vs, rfl, rfl, ha, hb, rfl, hl, fun i x y e1 e2 => by
    rw [e1] at e2
    cases e2
    obtain ⟨q, _, f⟩ := h.2 i x e1
    exact f.sm f rfl⟩
section
variable {P : Program} {w : World} {K : PySem.W.Frag} {mg : Str → Option Value} {base : Heap}
theorem c_fold {f : Int × Int → Int × Int → Int × Int} {e : Int × Int} {a : Addr} {xs : List V} {qs : List (Int × Int)} {H : Hp} {Q : VK} {E : XK} {vs : List V} (h0 : vs = [.ref a]) (h1 : Sq K H a xs) (h2 : FrL K H xs qs) (h3 : ∀ i ≤ qs.length, Sz ((qs.take i).foldl f e)) (h4 : ∀ q ∈ qs, Sz q) (k : RetFr K H Q (qs.foldl f e)) : spFold K f e vs H Q E :=
  ⟨a, xs, qs, h0, h1, h2, h3, h4, k⟩
theorem ok_rows (T : Txt K mg) : FnOk P w K mg base CX0 4 T.a_law_rows_hold T.d_law_rows_hold p_law_rows_hold (spT K) := by
  have G_law_any : FnOk P w K mg base CX0 1 T.a_law_any T.d_law_any p_law_any (sp_any K) := ok_any T
  have G_law_of : FnOk P w K mg base CX0 2 T.a_law_of T.d_law_of p_law_of (sp_of K) := ok_of T
  have G_law_signed : FnOk P w K mg base CX0 2 T.a_law_signed T.d_law_signed p_law_signed (sp_signed K) := ok_signed T
  have G_law_pair : FnOk P w K mg base CX0 3 T.a_law_pair T.d_law_pair p_law_pair (sp_pair K) := ok_pair T
  have G_law_lowest : FnOk P w K mg base CX0 1 T.a_law_lowest T.d_law_lowest p_law_lowest (sp_lowest K) := ok_law_lowest T
  have G_law_same : FnOk P w K mg base CX0 3 T.a_law_same T.d_law_same p_law_same (sp_same K 2) := ok_same T 2
  have G_sum_of : FnOk P w K mg base CX0 3 T.a_sum_of T.d_sum_of p_sum_of (spFold K add2 (0, 1)) := ok_sum_of T
  have G_product_of : FnOk P w K mg base CX0 3 T.a_product_of T.d_product_of p_product_of (spFold K mul2 (1, 1)) := ok_product_of T
  refine T.f_law_rows_hold.ok sc_law_rows_hold (fun vs H Q E h => ?_) (fun cdv A outer s H vs Q E hr h => ?_)
  · obtain ⟨a, b, rfl, _⟩ := h; rfl
  · obtain ⟨a, b, rfl, hd, k⟩ := h
    refine ⟨_, (pss_cons (ps_set (i := 1) sc_law_rows_hold.nd rfl (.inl rfl) (pe_call G_law_of (hr.mono (by omega)) (by rfl) T.g_law_of T.f_law_of.kp T.b_law_of .nil pass0 (pa_cons (pv 0) (pa_cons (pe_lst (pa_cons pe_int (pa_cons pe_int (pa_cons pe_int (pa_cons pe_int (pa_cons pe_int (pa_cons pe_int pa_nil))))))) pa_nil))))
      (pss_cons (ps_set (i := 2) sc_law_rows_hold.nd rfl (.inl rfl) (pe_lst pa_nil))
      (pss_cons (ps_for PassesOwn.never rfl (pi_range1 rfl T.z_range (pa_cons (pv 1) pa_nil)) (pg_name (i := 3) sc_law_rows_hold.nd rfl (.inl rfl))
        (pss_cons (ps_set (i := 4) sc_law_rows_hold.nd rfl (.inl rfl) (pe_call G_law_pair (hr.mono (by omega)) (by rfl) T.g_law_pair T.f_law_pair.kp T.b_law_pair .nil pass0 (pa_cons (pv 0) pa_nil)))
      (pss_one (ps_expr (pe_bm PySem.F.plainAttrs_list PySem.F.slot_list_append PySem.F.type_list_append mt_append (pv 2) (pa_cons (pe_call G_law_lowest (hr.mono (by omega)) (by rfl) T.g_law_lowest T.f_law_lowest.kp T.b_law_lowest .nil pass0 (pa_cons (pe_ix (ix_sqK K) (pv 4) pe_int (fun _ _ => rfl)) (pa_cons (pe_ix (ix_sqK K) (pv 4) pe_int (fun _ _ => rfl)) pa_nil))) pa_nil))))))
      (pss_cons (ps_for PassesOwn.never rfl (pi_range1 rfl T.z_range (pa_cons (pe_call G_law_of (hr.mono (by omega)) (by rfl) T.g_law_of T.f_law_of.kp T.b_law_of .nil pass0 (pa_cons (pv 0) (pa_cons (pe_lst (pa_cons pe_int (pa_cons pe_int (pa_cons pe_int (pa_cons pe_int pa_nil))))) pa_nil))) pa_nil)) (pg_name (i := 3) sc_law_rows_hold.nd rfl (.inl rfl))
        (pss_one (ps_expr (pe_bm PySem.F.plainAttrs_list PySem.F.slot_list_append PySem.F.type_list_append mt_append (pv 2) (pa_cons (pe_call G_law_lowest (hr.mono (by omega)) (by rfl) T.g_law_lowest T.f_law_lowest.kp T.b_law_lowest .nil pass0 (pa_cons (pe_call G_law_signed (hr.mono (by omega)) (by rfl) T.g_law_signed T.f_law_signed.kp T.b_law_signed .nil pass0 (pa_cons (pv 0) (pa_cons (pe_call G_law_any (hr.mono (by omega)) (by rfl) T.g_law_any T.f_law_any.kp T.b_law_any .nil pass0 (pa_cons (pv 0) (pa_cons pe_int pa_nil))) pa_nil))) (pa_cons (pe_op op_add pe_int (pe_call G_law_any (hr.mono (by omega)) (by rfl) T.g_law_any T.f_law_any.kp T.b_law_any .nil pass0 (pa_cons (pv 0) (pa_cons pe_int pa_nil)))) pa_nil))) pa_nil)))))
      (pss_cons (ps_asg (pe_tup (pa_cons (pe_tup (pa_cons pe_int (pa_cons pe_int pa_nil))) (pa_cons (pe_tup (pa_cons pe_int (pa_cons pe_int pa_nil))) pa_nil))) (pg_tup (n := 2) rfl (pgs_cons (pg_name (i := 5) sc_law_rows_hold.nd rfl (.inl rfl)) (pgs_cons (pg_name (i := 6) sc_law_rows_hold.nd rfl (.inl rfl)) pgs_nil))))
      (pss_cons (ps_for PassesOwn.never rfl (pi_listK K (pv 2)) (pg_name (i := 7) sc_law_rows_hold.nd rfl (.inl rfl))
        (pss_cons (ps_set (i := 5) sc_law_rows_hold.nd rfl (.inl rfl) (pe_tup (pa_cons (pe_op op_add (pe_op op_mulZ (pe_ix (ix_sqK K) (pv 5) pe_int (fun _ _ => rfl)) (pe_ix (ix_sqK K) (pv 7) pe_int (fun _ _ => rfl))) (pe_op op_mulZ (pe_ix (ix_sqK K) (pv 7) pe_int (fun _ _ => rfl)) (pe_ix (ix_sqK K) (pv 5) pe_int (fun _ _ => rfl)))) (pa_cons (pe_op op_mulZ (pe_ix (ix_sqK K) (pv 5) pe_int (fun _ _ => rfl)) (pe_ix (ix_sqK K) (pv 7) pe_int (fun _ _ => rfl))) pa_nil))))
      (pss_one (ps_set (i := 6) sc_law_rows_hold.nd rfl (.inl rfl) (pe_tup (pa_cons (pe_op op_mulZ (pe_ix (ix_sqK K) (pv 6) pe_int (fun _ _ => rfl)) (pe_ix (ix_sqK K) (pv 7) pe_int (fun _ _ => rfl))) (pa_cons (pe_op op_mulZ (pe_ix (ix_sqK K) (pv 6) pe_int (fun _ _ => rfl)) (pe_ix (ix_sqK K) (pv 7) pe_int (fun _ _ => rfl))) pa_nil)))))))
      (pss_cons (ps_par (i := 5) (j := 6) rfl sc_law_rows_hold.nd rfl rfl (by decide) rfl rfl (pa_cons (pe_call G_law_lowest (hr.mono (by omega)) (by rfl) T.g_law_lowest T.f_law_lowest.kp T.b_law_lowest .nil pass0 (pa_cons (pe_ix (ix_sqK K) (pv 5) pe_int (fun _ _ => rfl)) (pa_cons (pe_ix (ix_sqK K) (pv 5) pe_int (fun _ _ => rfl)) pa_nil))) (pa_cons (pe_call G_law_lowest (hr.mono (by omega)) (by rfl) T.g_law_lowest T.f_law_lowest.kp T.b_law_lowest .nil pass0 (pa_cons (pe_ix (ix_sqK K) (pv 6) pe_int (fun _ _ => rfl)) (pa_cons (pe_ix (ix_sqK K) (pv 6) pe_int (fun _ _ => rfl)) pa_nil))) pa_nil)) (by rfl))
      (pss_cons (ps_set (i := 8) sc_law_rows_hold.nd rfl (.inl rfl) (pe_callTy (cr_tupleK K) (by rfl) T.z_tuple (by decide +kernel) (pa_cons (pv 2) pa_nil)))
      (pss_cons (ps_if (PW.pt (pw_or (pt_not (pt_val (pe_call G_law_same (hr.mono (by omega)) (by rfl) T.g_law_same T.f_law_same.kp T.b_law_same .nil pass0 (pa_cons (pe_call G_sum_of (hr.mono (by omega)) (by rfl) T.g_sum_of T.f_sum_of.kp T.b_sum_of .nil pass0 (pa_cons (pv 2) pa_nil)) (pa_cons (pv 5) pa_nil))))) (pw_or1 (pt_not (pt_val (pe_call G_law_same (hr.mono (by omega)) (by rfl) T.g_law_same T.f_law_same.kp T.b_law_same .nil pass0 (pa_cons (pe_call G_product_of (hr.mono (by omega)) (by rfl) T.g_product_of T.f_product_of.kp T.b_product_of .nil pass0 (pa_cons (pv 8) pa_nil)) (pa_cons (pv 6) pa_nil))))))))
        (pss_one (ps_ret pe_bl)) pss_nil)
      (pss_cons (ps_if (PW.pt (pw_or (pt_not (pt_val (pe_call G_law_same (hr.mono (by omega)) (by rfl) T.g_law_same T.f_law_same.kp T.b_law_same .nil pass0 (pa_cons (pe_callK0 G_sum_of (hr.mono (by omega)) (by rfl) T.g_sum_of T.f_sum_of.kp (T.kb_sum_of_fractions) pass0 (pk_cons (pv 8) pk_nil)) (pa_cons (pv 5) pa_nil))))) (pw_or1 (pt_not (pt_val (pe_call G_law_same (hr.mono (by omega)) (by rfl) T.g_law_same T.f_law_same.kp T.b_law_same .nil pass0 (pa_cons (pe_callK0 G_product_of (hr.mono (by omega)) (by rfl) T.g_product_of T.f_product_of.kp (T.kb_product_of_fractions) pass0 (pk_cons (pv 2) pk_nil)) (pa_cons (pv 6) pa_nil))))))))
        (pss_one (ps_ret pe_bl)) pss_nil)
      (pss_one (ps_ret (pe_call G_law_same (hr.mono (by omega)) (by rfl) T.g_law_same T.f_law_same.kp T.b_law_same .nil pass0 (pa_cons (pe_callTy (cr_tupleK K) (by rfl) T.z_tuple (by decide +kernel) (pa_cons (pv 2) pa_nil)) (pa_cons (pv 8) pa_nil))))))))))))))), ?_⟩
    walk_at "go0"
    refine r_new (Nat.le_of_ble_eq_true rfl) fun p H1 n1 => ?_
    walk_at "go"
    refine c_of rfl (hd.keep n1.same) n1.at (hd.new n1) (Nat.le_of_ble_eq_true rfl) (Nat.le_of_ble_eq_true rfl) fun x H2 hx d2 => ?_
    have hx2 : ∃ m : Int, x = .int m ∧ 0 ≤ m ∧ m ≤ 8 := by
      simp only [List.mem_cons, List.not_mem_nil, or_false] at hx
      rcases hx with rfl | rfl | rfl | rfl | rfl | rfl <;> exact ⟨_, rfl, by decide, by decide⟩
    obtain ⟨m, rfl, m0, m8⟩ := hx2
    have d02 : Dr a b H H2 := ((Dr.rfl' hd).nw n1).trans d2
    walk_at "go"
    refine r_new (Nat.le_of_ble_eq_true rfl) fun R H3 n3 => ?_
    have d03 : Dr a b H H3 := d02.nw n3
    have nR : H R = none := d02.free n3.1
    obtain ⟨Ra, Rb⟩ := hd.none nR
    walk_at "go"
    refine l_range1 (by omega) m0 (fun i σ' H' => ∃ y3 y4 vs qs n, σ' = [some (.ref a), some (.int m), some (.ref R), y3, y4, none, none, none, none] ∧ Dr a b H H' ∧ H' R = some (.lst vs) ∧ FrL K H' vs qs ∧ Wt qs n ∧ n ≤ i * 201 ∧ vs.length ≤ i)
      ⟨_, _, [], [], 0, rfl, d03, n3.at, FrL.nil, .nil, by omega, Nat.le_refl _⟩ (fun i σ' H' hi q => ?_) fun σ' H' q => ?_
    · obtain ⟨y3, y4, vs, qs, n, rfl, dH, hR, hL, hW, hn, hv⟩ := q
      walk_at "go"
      refine c_pair rfl dH.1 fun v r J1 R1 F1 j1 => ?_
      obtain ⟨t, rfl, T1⟩ := F1
      have hR1 : J1 R = _ := j1.2.1 _ _ Ra Rb hR
      walk_at "go"
      refine c_lowest rfl R1.1 (raw_small R1).1 (raw_small R1).2 fun z J2 j2 F2 => ?_
      walk_at "go"
      refine r_app (j2 _ _ hR1) (by omega) fun J3 m3 => ?_
      obtain ⟨b0, b1, b2⟩ := raw_lo R1
      have d2' : Dr a b H J2 := (dH.trans j1).same j2
      refine ⟨_, _, _, _, _, rfl, d2'.mu hd m3 nR, m3.at, ((hL.keep (j1.2.2.trans (TK.of j2))).snoc F2).keep (m3.tk (j2 _ _ hR1)), .snoc hW b0 b1 b2, by omega, ?_⟩
      rw [List.length_append, List.length_singleton]
      omega
    · obtain ⟨y3, y4, vs, qs, n, rfl, dH, hR, hL, hW, hn, hv⟩ := q
      walk_at "go"
      refine r_new (Nat.le_of_ble_eq_true rfl) fun p J1 n1 => ?_
      walk_at "go"
      refine c_of rfl (dH.1.keep n1.same) n1.at (dH.1.new n1) (Nat.le_of_ble_eq_true rfl) (Nat.le_of_ble_eq_true rfl) fun x J2 hx d2 => ?_
      have hx2 : ∃ m : Int, x = .int m ∧ 0 ≤ m ∧ m ≤ 52 := by
        simp only [List.mem_cons, List.not_mem_nil, or_false] at hx
        rcases hx with rfl | rfl | rfl | rfl <;> exact ⟨_, rfl, by decide, by decide⟩
      obtain ⟨u, rfl, u0, u1⟩ := hx2
      have dJ2 : Dr a b H J2 := (dH.nw n1).trans d2
      have hR2 : J2 R = _ := d2.2.1 _ _ Ra Rb (n1.same _ _ hR)
      have hL2 := hL.keep ((TK.of n1.same).trans d2.2.2)
      clear hL hR
      walk_at "go"
      refine l_range1 (by omega) u0 (fun i σ' H' => ∃ y3 vs qs n, σ' = [some (.ref a), some (.int m), some (.ref R), y3, y4, none, none, none, none] ∧ Dr a b H H' ∧ H' R = some (.lst vs) ∧ FrL K H' vs qs ∧ Wt qs n ∧ n ≤ 8 * 201 + i * 6 ∧ vs.length ≤ 8 + i)
        ⟨_, vs, qs, n, rfl, dJ2, hR2, hL2, hW, by omega, by omega⟩ (fun i σ' H' hi q => ?_) fun σ' H' q => ?_
      · clear hR2 hL2 hW hn hv
        obtain ⟨y3, vs, qs, n, rfl, dH, hR, hL, hW, hn, hv⟩ := q
        walk_at "go"
        refine c_any rfl dH.1 (by decide) (by decide +kernel) fun r J3 r0 r1 d3 => ?_
        walk_at "go"
        refine c_signed rfl d3.1 fun y J4 hy d4 => ?_
        walk_at "go"
        refine c_any rfl d4.1 (by decide) (by decide +kernel) fun z J5 z0 z1 d5 => ?_
        walk_at "go"
        have dd := ((dH.trans d3).trans d4).trans d5
        have p5 : (2 : Nat) ^ 5 < 2 ^ 8000 := Nat.pow_lt_pow_right (by decide) (by decide)
        have b1 : y.natAbs < 2 ^ 5 := by omega
        have b2 : (1 + z).natAbs < 2 ^ 5 := by omega
        have hR5 : J5 R = _ := d5.2.1 _ _ Ra Rb (d4.2.1 _ _ Ra Rb (d3.2.1 _ _ Ra Rb hR))
        refine c_lowest rfl (by omega) (Nat.lt_trans b1 p5) (Nat.lt_trans b2 p5) fun v J6 j6 F6 => ?_
        walk_at "go"
        refine r_app (j6 _ _ hR5) (by omega) fun J7 m7 => ?_
        have hz : 1 + z ≠ 0 := by omega
        refine ⟨_, _, _, _, rfl, (dd.same j6).mu hd m7 nR, m7.at, ((hL.keep (((d3.2.2.trans d4.2.2).trans d5.2.2).trans (TK.of j6))).snoc F6).keep (m7.tk (j6 _ _ hR5)), .snoc hW (lo_den hz) (Nat.lt_of_le_of_lt (lo_le1 hz) b1) (Nat.lt_of_le_of_lt (lo_le2 hz) b2), by omega, ?_⟩
        rw [List.length_append, List.length_singleton]
        omega
      · clear hR2 hL2 hW hn hv
        obtain ⟨y3, vs, qs, n, rfl, dH, hR, hL, hW, hn, hv⟩ := q
        have hn3 : n < 2900 := by omega
        have hln := hL.1
        walk_at "go"
        refine r_new (Nat.le_of_ble_eq_true rfl) fun t1 J1 n1 => ?_
        walk_at "go"
        refine r_new (Nat.le_of_ble_eq_true rfl) fun t2 J2 n2 => ?_
        walk_at "go"
        refine r_new (Nat.le_of_ble_eq_true rfl) fun t3 J3 n3 => ?_
        walk_at "go"
        have s3 : Same H' J3 := (n1.same.trans n2.same).trans n3.same
        have hR2 := s3 _ _ hR
        have hL2 := hL.keep (TK.of s3)
        refine l_list (SqL.of hR2) (fun i σ' H3 => ∃ tv pv y7, σ' = [some (.ref a), some (.int m), some (.ref R), y3, y4, some tv, some pv, y7, none] ∧ Same J3 H3 ∧ Fr K H3 tv ((qs.take i).foldl tot (0, 1)) ∧ Fr K H3 pv ((qs.take i).foldl prd (1, 1)))
          ⟨_, _, _, rfl, Same.refl _, ⟨_, rfl, (Tp.new n1).keep (TK.of (n2.same.trans n3.same))⟩, ⟨_, rfl, (Tp.new n2).keep (TK.of n3.same)⟩⟩ (fun i σ' H3 _ q => by obtain ⟨_, _, _, _, h, _⟩ := q; exact SqL.of (h _ _ hR2)) (fun i x σ' H3 e q => ?_) fun σ' H3 q => ?_
        · obtain ⟨tv, pv, y7, rfl, sJ, ft, fp⟩ := q
          obtain ⟨q, e1, fq⟩ := hL2.2 i x e
          have hi : i < qs.length := (List.getElem?_eq_some_iff.mp e1).1
          obtain ⟨sq0, sq1, sq2⟩ := hW.mem (by omega) q (List.mem_of_getElem? e1)
          obtain ⟨m1, hm1, w1⟩ := hW.take i
          obtain ⟨_, g2, g3, _⟩ := w1.tot
          obtain ⟨_, g5, g6, _⟩ := w1.prd
          have le3 : (2 : Nat) ^ (m1 + 1) ≤ 2 ^ 3000 := Nat.pow_le_pow_right (by decide) (by omega)
          have c1 := Nat.lt_of_lt_of_le g2 le3
          have c2 := Nat.lt_of_lt_of_le g3 le3
          have c3 := Nat.lt_of_lt_of_le g5 le3
          have c4 := Nat.lt_of_lt_of_le g6 le3
          have en1 : (qs.take (i + 1)).foldl tot (0, 1) = tot ((qs.take i).foldl tot (0, 1)) q := fold_next e1
          have en2 : (qs.take (i + 1)).foldl prd (1, 1) = prd ((qs.take i).foldl prd (1, 1)) q := fold_next e1
          clear g2 g3 g5 g6 le3 w1 hm1
          generalize (qs.take i).foldl tot (0, 1) = A at *
          generalize (qs.take i).foldl prd (1, 1) = B at *
          obtain ⟨A1, A2⟩ := A
          obtain ⟨B1, B2⟩ := B
          obtain ⟨q1, q2⟩ := q
          obtain ⟨at1, rfl, ta⟩ := ft
          obtain ⟨at2, rfl, tb⟩ := fp
          obtain ⟨at3, rfl, tq⟩ := fq.keep (TK.of sJ)
          dsimp only at c1 c2 c3 c4 sq0 sq1 sq2 ta tb tq
          walk_at "go"
          · refine r_new (Nat.le_of_ble_eq_true rfl) fun u1 J4 n4 => ?_
            walk_at "go"
            · refine r_new (Nat.le_of_ble_eq_true rfl) fun u2 J5 n5 => ?_
              refine ⟨_, _, _, rfl, (sJ.trans n4.same).trans n5.same, ⟨u1, rfl, ?_⟩, ⟨u2, rfl, ?_⟩⟩
              · rw [en1]
                exact (Tp.new n4).keep (TK.of n5.same)
              · rw [en2]
                exact Tp.new n5
            all_goals walk_at "im"
          all_goals walk_at "im"
        · obtain ⟨tv, pv, y7, rfl, sJ, ft, fp⟩ := q
          rw [hln, List.take_length] at ft fp
          obtain ⟨g1, g2, g3, g4⟩ := hW.tot
          obtain ⟨g5, g6, g7, g8⟩ := hW.prd
          have le8 : (2 : Nat) ^ (n + 1) ≤ 2 ^ 8000 := Nat.pow_le_pow_right (by decide) (by omega)
          have c1 := Nat.lt_of_lt_of_le g2 le8
          have c2 := Nat.lt_of_lt_of_le g3 le8
          have c3 := Nat.lt_of_lt_of_le g6 le8
          have c4 := Nat.lt_of_lt_of_le g7 le8
          have eA : Sz _ ∧ True := ⟨hW.szA (by omega) qs.length (Nat.le_refl _), trivial⟩
          clear g2 g3 g6 g7 le8
          have hm := hW.mem (n := n) (by omega)
          have hA := hW.szA (by omega)
          have hM := hW.szM (by omega)
          generalize qs.foldl tot (0, 1) = A at *
          generalize qs.foldl prd (1, 1) = B at *
          obtain ⟨A1, A2⟩ := A
          obtain ⟨B1, B2⟩ := B
          obtain ⟨at1, rfl, ta⟩ := ft
          obtain ⟨at2, rfl, tb⟩ := fp
          dsimp only at c1 c2 c3 c4 g1 g4 g5 g8 ta tb
          have hR3 := sJ _ _ hR2
          have hL3 := hL2.keep (TK.of sJ)
          walk_at "go"
          refine c_lowest rfl (by omega) c1 c2 fun v1 J4 j4 f4 => ?_
          walk_at "go"
          refine c_lowest rfl (by omega) c3 c4 fun v2 J5 j5 f5 => ?_
          rw [← g4] at f4
          rw [← g8] at f5
          have hR5 : J5 R = _ := j5 _ _ (j4 _ _ hR3)
          have hL5 := hL3.keep (TK.of (j4.trans j5))
          have dJ5 : Dr a b H J5 := (((dH.same s3).same sJ).same j4).same j5
          have F4 := f4.keep (TK.of j5)
          walk_at "go"
          refine r_tupleL (SqL.of hR5) fun kp J6 n6 => ?_
          have hR6 := n6.same _ _ hR5
          have hL6 := hL5.keep n6.tk
          have dJ6 := dJ5.nw n6
          have G4 := F4.keep n6.tk
          have G5 := f5.keep n6.tk
          have hK := Tp.new (K := K) n6
          clear hR5 hL5 dJ5 F4 f5 f4 hL3 hR3 hL2 hR2 hR hL ta tb
          walk_at "go"
          -- sum_of(row)
          refine c_fold rfl (.inl (SqL.of hR6)) hL6 hA hm fun v J7 j7 f7 => ?_
          walk_at "go"
          refine c_same rfl (Sm.up (f7.sm (G4.keep (TK.of j7)) rfl)) fun J8 j8 => ?_
          walk_at "go"
          have k8 := j7.trans j8
          refine c_fold rfl (.inr (hK.keep (TK.of k8)).sq) (hL6.keep (TK.of k8)) hM hm fun v J9 j9 f9 => ?_
          walk_at "go"
          refine c_same rfl (Sm.up (f9.sm (G5.keep (TK.of (k8.trans j9))) rfl)) fun J10 j10 => ?_
          walk_at "go"
          have k10 := (k8.trans j9).trans j10
          refine c_fold rfl (.inr (hK.keep (TK.of k10)).sq) (hL6.keep (TK.of k10)) hA hm fun v J11 j11 f11 => ?_
          walk_at "go"
          refine c_same rfl (Sm.up (f11.sm (G4.keep (TK.of (k10.trans j11))) rfl)) fun J12 j12 => ?_
          walk_at "go"
          have k12 := (k10.trans j11).trans j12
          refine c_fold rfl (.inl (SqL.of (k12 _ _ hR6))) (hL6.keep (TK.of k12)) hM hm fun v J13 j13 f13 => ?_
          walk_at "go"
          refine c_same rfl (Sm.up (f13.sm (G5.keep (TK.of (k12.trans j13))) rfl)) fun J14 j14 => ?_
          walk_at "go"
          have k14 := (k12.trans j13).trans j14
          refine r_tupleL (SqL.of (k14 _ _ hR6)) fun kq J15 n15 => ?_
          walk_at "go"
          refine c_same rfl ((hL6.keep (TK.of (k14.trans n15.same))).sm (Tp.new n15) (hK.keep (TK.of (k14.trans n15.same))) (by omega)) fun J16 j16 => ?_
          exact k _ ((dJ6.same k14).same (n15.same.trans j16))
end
end Al

set_option Elab.async false
set_option linter.all false
set_option pp.maxSteps 2000
set_option maxRecDepth 100000
set_option maxHeartbeats 4000000
set_option exponentiation.threshold 20000
open PySem PySem.Spec PyProof.Rows L2 Al
namespace Al
theorem sz_of {p : Int × Int} (h : 0 < p.2) (h1 : p.1.natAbs < 2 ^ 20) (h2 : p.2.natAbs < 2 ^ 20) : Sz p := by
  have e : (2 : Nat) ^ 20 < 2 ^ 3000 := Nat.pow_lt_pow_right (by decide) (by decide)
  exact ⟨h, Nat.lt_trans h1 e, Nat.lt_trans h2 e⟩
theorem sz_app {f : Int × Int → Int × Int → Int × Int} {e q : Int × Int} {qs : List (Int × Int)} (h : ∀ i ≤ qs.length, Sz ((qs.take i).foldl f e)) (h' : Sz (f (qs.foldl f e) q)) : ∀ i ≤ (qs ++ [q]).length, Sz (((qs ++ [q]).take i).foldl f e) := fun i hi => by
  by_cases hq : i ≤ qs.length
  · rw [List.take_append_of_le_length hq]
    exact h i hq
  · rw [List.take_of_length_le (by rw [List.length_append, List.length_singleton]; omega), List.foldl_append]
    exact h'
theorem mem_app {q : Int × Int} {qs : List (Int × Int)} (h : ∀ x ∈ qs, Sz x) (h' : Sz q) : ∀ x ∈ qs ++ [q], Sz x := fun x hx => by
  rcases List.mem_append.mp hx with hx | hx
  · exact h x hx
  · cases List.mem_singleton.mp hx
    exact h'
theorem mem_map_range {g : Nat → Int × Int} {N : Nat} (h : ∀ i, i < N → Sz (g i)) : ∀ x ∈ (List.range N).map g, Sz x := fun x hx => by
  obtain ⟨i, hi, rfl⟩ := List.mem_map.mp hx
  exact h i (List.mem_range.mp hi)
theorem map_snoc (g : Nat → Int × Int) (i : Nat) : (List.range (i + 1)).map g = (List.range i).map g ++ [g i] := by
  rw [List.range_succ, List.map_append]
  rfl
theorem fold_app {f : Int × Int → Int × Int → Int × Int} {e q : Int × Int} {qs : List (Int × Int)} : (qs ++ [q]).foldl f e = f (qs.foldl f e) q := by
  rw [List.foldl_append]
  rfl
section
variable {P : Program} {w : World} {K : PySem.W.Frag} {mg : Str → Option Value} {base : Heap}
theorem ok_shapes (T : Txt K mg) : FnOk P w K mg base CX0 4 T.a_law_shapes_hold T.d_law_shapes_hold p_law_shapes_hold (spT K) := by
  have G_law_any : FnOk P w K mg base CX0 1 T.a_law_any T.d_law_any p_law_any (sp_any K) := ok_any T
  have G_law_same : FnOk P w K mg base CX0 2 T.a_law_same T.d_law_same p_law_same (sp_same K 1) := ok_same T 1
  have G_sum_of : FnOk P w K mg base CX0 3 T.a_sum_of T.d_sum_of p_sum_of (spFold K add2 (0, 1)) := ok_sum_of T
  have G_product_of : FnOk P w K mg base CX0 3 T.a_product_of T.d_product_of p_product_of (spFold K mul2 (1, 1)) := ok_product_of T
  refine T.f_law_shapes_hold.ok sc_law_shapes_hold (fun vs H Q E h => ?_) (fun cdv A outer s H vs Q E hr h => ?_)
  · obtain ⟨a, b, rfl, _⟩ := h; rfl
  · obtain ⟨a, b, rfl, hd, k⟩ := h
    refine ⟨_, (pss_cons (ps_set (i := 1) sc_law_shapes_hold.nd rfl (.inl rfl) (pe_op op_add pe_int (pe_call G_law_any (hr.mono (by omega)) (by rfl) T.g_law_any T.f_law_any.kp T.b_law_any .nil pass0 (pa_cons (pv 0) (pa_cons pe_int pa_nil)))))
      (pss_cons (ps_setLc (i := 2) (own := [("k", 5)]) (g := gName 5) rfl sc_law_shapes_hold.nd rfl rfl (sw_true rfl rfl rfl (by decide +kernel)) (pi_range2 rfl T.z_range (pa_cons pe_int (pa_cons (pe_op op_add (pv 1) pe_int) pa_nil))) (blkOk_by (own := [("k", 5)]) (N := n_law_shapes_hold) (sc := defScope s_law_shapes_hold) (by decide +kernel)) (fun _ _ _ _ _ => pg_name (i := 5) sc_law_shapes_hold.nd rfl (Or.inl rfl)) (fun _ _ _ _ _ => pts_nil) (fun _ _ _ _ _ => (pe_tup (pa_cons pe_int (pa_cons (pe_op op_mulZ (pv 5) (pe_op op_add (pv 5) pe_int)) pa_nil)))))
      (pss_cons (ps_set (i := 3) sc_law_shapes_hold.nd rfl (.inl rfl) (pe_callTy (cr_tupleK K) (by rfl) T.z_tuple (by decide +kernel) (pa_cons (pe_lc (own := [("k", 5)]) (g := gName 5) rfl sc_law_shapes_hold.nd (pi_range2 rfl T.z_range (pa_cons pe_int (pa_cons (pe_op op_add (pv 1) pe_int) pa_nil))) (blkOk_by (own := [("k", 5)]) (N := n_law_shapes_hold) (sc := defScope s_law_shapes_hold) (by decide +kernel)) (fun _ _ _ _ _ => pg_name (i := 5) sc_law_shapes_hold.nd rfl (Or.inl rfl)) (fun _ _ _ _ _ => pts_nil) (fun _ _ _ _ _ => (pe_tup (pa_cons (pe_op op_add (pv 5) pe_int) (pa_cons (pv 5) pa_nil))))) pa_nil)))
      (pss_cons (ps_if (PW.pt (pw_or (pt_not (pt_val (pe_call G_law_same (hr.mono (by omega)) (by rfl) T.g_law_same T.f_law_same.kp T.b_law_same .nil pass0 (pa_cons (pe_call G_sum_of (hr.mono (by omega)) (by rfl) T.g_sum_of T.f_sum_of.kp T.b_sum_of .nil pass0 (pa_cons (pv 2) pa_nil)) (pa_cons (pe_tup (pa_cons (pv 1) (pa_cons (pe_op op_add (pv 1) pe_int) pa_nil))) pa_nil))))) (pw_or1 (pt_not (pt_val (pe_call G_law_same (hr.mono (by omega)) (by rfl) T.g_law_same T.f_law_same.kp T.b_law_same .nil pass0 (pa_cons (pe_call G_product_of (hr.mono (by omega)) (by rfl) T.g_product_of T.f_product_of.kp T.b_product_of .nil pass0 (pa_cons (pv 3) pa_nil)) (pa_cons (pe_tup (pa_cons (pe_op op_add (pv 1) pe_int) (pa_cons pe_int pa_nil))) pa_nil))))))))
        (pss_one (ps_ret pe_bl)) pss_nil)
      (pss_cons (ps_set (i := 4) sc_law_shapes_hold.nd rfl (.inl rfl) (pe_op op_cat (pe_lc (own := [("k", 5)]) (g := gName 5) rfl sc_law_shapes_hold.nd (pi_range2 rfl T.z_range (pa_cons pe_int (pa_cons (pe_op op_add (pv 1) pe_int) pa_nil))) (blkOk_by (own := [("k", 5)]) (N := n_law_shapes_hold) (sc := defScope s_law_shapes_hold) (by decide +kernel)) (fun _ _ _ _ _ => pg_name (i := 5) sc_law_shapes_hold.nd rfl (Or.inl rfl)) (fun _ _ _ _ _ => pts_nil) (fun _ _ _ _ _ => (pe_tup (pa_cons (pv 5) (pa_cons (pe_op op_add (pv 5) pe_int) pa_nil))))) (pe_lst (pa_cons (pe_tup (pa_cons (pe_un un_neg pe_int) (pa_cons pe_int pa_nil))) pa_nil))))
      (pss_cons (ps_if (PW.pt (pw_or (pt_not (pt_val (pe_call G_law_same (hr.mono (by omega)) (by rfl) T.g_law_same T.f_law_same.kp T.b_law_same .nil pass0 (pa_cons (pe_call G_product_of (hr.mono (by omega)) (by rfl) T.g_product_of T.f_product_of.kp T.b_product_of .nil pass0 (pa_cons (pv 4) pa_nil)) (pa_cons (pe_tup (pa_cons (pe_un un_neg pe_int) (pa_cons (pe_op op_add (pv 1) pe_int) pa_nil))) pa_nil))))) (pw_or1 (pt_not (pt_val (pe_call G_law_same (hr.mono (by omega)) (by rfl) T.g_law_same T.f_law_same.kp T.b_law_same .nil pass0 (pa_cons (pe_call G_product_of (hr.mono (by omega)) (by rfl) T.g_product_of T.f_product_of.kp T.b_product_of .nil pass0 (pa_cons (pe_op op_cat (pv 4) (pe_lst (pa_cons (pe_tup (pa_cons pe_int (pa_cons pe_int pa_nil))) pa_nil))) pa_nil)) (pa_cons (pe_tup (pa_cons pe_int (pa_cons pe_int pa_nil))) pa_nil))))))))
        (pss_one (ps_ret pe_bl)) pss_nil)
      (pss_one (ps_ret (pe_and (pe_call G_law_same (hr.mono (by omega)) (by rfl) T.g_law_same T.f_law_same.kp T.b_law_same .nil pass0 (pa_cons (pe_call G_sum_of (hr.mono (by omega)) (by rfl) T.g_sum_of T.f_sum_of.kp T.b_sum_of .nil pass0 (pa_cons (pe_op op_cat (pv 2) (pe_lst (pa_cons (pe_tup (pa_cons (pe_un un_neg (pv 1)) (pa_cons (pe_op op_add (pv 1) pe_int) pa_nil))) pa_nil))) pa_nil)) (pa_cons (pe_tup (pa_cons pe_int (pa_cons pe_int pa_nil))) pa_nil))) (pe_and (pe_call G_law_same (hr.mono (by omega)) (by rfl) T.g_law_same T.f_law_same.kp T.b_law_same .nil pass0 (pa_cons (pe_call G_sum_of (hr.mono (by omega)) (by rfl) T.g_sum_of T.f_sum_of.kp T.b_sum_of .nil pass0 (pa_cons (pe_tup pa_nil) pa_nil)) (pa_cons (pe_tup (pa_cons pe_int (pa_cons pe_int pa_nil))) pa_nil))) (pe_one (pe_call G_law_same (hr.mono (by omega)) (by rfl) T.g_law_same T.f_law_same.kp T.b_law_same .nil pass0 (pa_cons (pe_call G_product_of (hr.mono (by omega)) (by rfl) T.g_product_of T.f_product_of.kp T.b_product_of .nil pass0 (pa_cons (pe_lst pa_nil) pa_nil)) (pa_cons (pe_tup (pa_cons pe_int (pa_cons pe_int pa_nil))) pa_nil)))))))))))))), ?_⟩
    walk_at "go0"
    refine c_any rfl hd (by decide) (by decide +kernel) fun r H1 r0 r1 d1 => ?_
    obtain ⟨N, hN⟩ : ∃ N : Nat, 1 + r = (N : Int) := ⟨(1 + r).toNat, by omega⟩
    refine r_I0 ?_
    rw [hN]
    have hN1 : 1 ≤ N := by omega
    have hN60 : N ≤ 60 := by omega
    have eN : ((N : Int) + 1 - 1).toNat = N := by omega
    walk_at "go"
    refine c_range2 (by decide) (by decide) (by omega) (by omega) (fun D i H' => H1 D = none ∧ Same H1 H' ∧ ∃ vs, H' D = some (.lst vs) ∧ vs.length ≤ i ∧ FrL K H' vs ((List.range i).map qStep)) (fun _ => rfl) (fun D H2 n2 => ⟨n2.1, n2.same, [], n2.at, Nat.le_refl _, FrL.nil⟩) (fun D i H' hi q => ?_) fun S H2 q => ?_
    · obtain ⟨q0, q1, vs, q2, q3, q4⟩ := q
      walk_at "go"
      · refine r_new (Nat.le_of_ble_eq_true rfl) fun p H3 n3 => ?_
        refine r_it (n3.same _ _ q2) (by omega) fun H4 mu => ⟨q0, mu.same0 (q1.trans n3.same) q0, _, mu.at, by rw [List.length_append, List.length_singleton]; omega, ?_⟩
        rw [map_snoc]
        exact ((q4.keep n3.tk).snoc ⟨p, rfl, Tp.new n3⟩).keep (mu.tk (n3.same _ _ q2))
      all_goals exact mulC' ⟨by omega, by omega⟩
    obtain ⟨_, sS, vS, hS, lS, fS⟩ := q
    rw [eN] at lS fS
    walk_at "go"
    refine c_range2 (by decide) (by decide) (by omega) (by omega) (fun D i H' => H2 D = none ∧ Same H2 H' ∧ ∃ vs, H' D = some (.lst vs) ∧ vs.length ≤ i ∧ FrL K H' vs ((List.range i).map qRise)) (fun _ => rfl) (fun D H2 n2 => ⟨n2.1, n2.same, [], n2.at, Nat.le_refl _, FrL.nil⟩) (fun D i H' hi q => ?_) fun R H3 q => ?_
    · obtain ⟨q0, q1, vs, q2, q3, q4⟩ := q
      walk_at "go"
      refine r_new (Nat.le_of_ble_eq_true rfl) fun p H3 n3 => ?_
      refine r_it (n3.same _ _ q2) (by omega) fun H4 mu => ⟨q0, mu.same0 (q1.trans n3.same) q0, _, mu.at, by rw [List.length_append, List.length_singleton]; omega, ?_⟩
      rw [map_snoc]
      exact ((q4.keep n3.tk).snoc ⟨p, rfl, Tp.new n3⟩).keep (mu.tk (n3.same _ _ q2))
    obtain ⟨_, sR, vR, hR, lR, fR⟩ := q
    rw [eN] at lR fR
    walk_at "go"
    refine r_tupleL (SqL.of hR) fun tR H4 n4 => ?_
    walk_at "go"
    have s4 : Same H1 H4 := (sS.trans sR).trans n4.same
    have hS4 := (sR.trans n4.same) _ _ hS
    have fS4 := fS.keep (TK.of (sR.trans n4.same))
    have hR4 : Tp K H4 tR vR := Tp.new n4
    have fR4 := fR.keep n4.tk
    have d4 := d1.same s4
    clear hS fS hR fR sS sR s4 n4
    -- sum_of(steps)
    have zS : ∀ i ≤ ((List.range N).map qStep).length, Sz ((((List.range N).map qStep).take i).foldl add2 (0, 1)) := fun i hi => by
      rw [List.length_map, List.length_range] at hi
      rw [take_range _ _ _ hi, sum_steps]
      exact sz_of (by show (0 : Int) < (i : Int) + 1; omega) (by show ((i : Int)).natAbs < _; omega) (by show ((i : Int) + 1).natAbs < _; omega)
    have mS : ∀ x ∈ (List.range N).map qStep, Sz x := mem_map_range fun i hi => by
      have hp : (0 : Int) < (1 + (i : Int)) * (1 + (i : Int) + 1) := Int.mul_pos (by omega) (by omega)
      refine sz_of hp (by show (1 : Int).natAbs < _; decide) ?_
      show ((1 + (i : Int)) * (1 + (i : Int) + 1)).natAbs < _
      exact bnd_mul (a := 10) (b := 10) (by omega) (by omega) (by decide)
    have zR : ∀ i ≤ ((List.range N).map qRise).length, Sz ((((List.range N).map qRise).take i).foldl mul2 (1, 1)) := fun i hi => by
      rw [List.length_map, List.length_range] at hi
      rw [take_range _ _ _ hi, mul_rises]
      exact sz_of (by show (0 : Int) < 1; decide) (by show ((i : Int) + 1).natAbs < _; omega) (by show (1 : Int).natAbs < _; decide)
    have mR : ∀ x ∈ (List.range N).map qRise, Sz x := mem_map_range fun i hi =>
      sz_of (by show (0 : Int) < 1 + (i : Int); omega) (by show (1 + (i : Int) + 1).natAbs < _; omega) (by show (1 + (i : Int)).natAbs < _; omega)
    have zT : ∀ i ≤ ((List.range N).map qTurn).length, Sz ((((List.range N).map qTurn).take i).foldl mul2 (1, 1)) := fun i hi => by
      rw [List.length_map, List.length_range] at hi
      rw [take_range _ _ _ hi, mul_turns]
      exact sz_of (by show (0 : Int) < (i : Int) + 1; omega) (by show (1 : Int).natAbs < _; decide) (by show ((i : Int) + 1).natAbs < _; omega)
    have mT : ∀ x ∈ (List.range N).map qTurn, Sz x := mem_map_range fun i hi =>
      sz_of (by show (0 : Int) < 1 + (i : Int) + 1; omega) (by show (1 + (i : Int)).natAbs < _; omega) (by show (1 + (i : Int) + 1).natAbs < _; omega)
    have eT1 : mul2 (1, (N : Int) + 1) (-1, 1) = (-1, (N : Int) + 1) :=
      lo_is (by show ((N : Int) + 1) * 1 ≠ 0; omega) (by show (0 : Int) < (N : Int) + 1; omega) (Nat.gcd_one_left _) (by show (1 * -1) * ((N : Int) + 1) = -1 * (((N : Int) + 1) * 1); omega)
    have eT2 : mul2 (-1, (N : Int) + 1) (0, 1) = (0, 1) :=
      lo_is (by show ((N : Int) + 1) * 1 ≠ 0; omega) (by show (0 : Int) < 1; decide) (Nat.gcd_one_right _) (by show (-1 * 0) * 1 = 0 * (((N : Int) + 1) * 1); omega)
    have eS1 : add2 ((N : Int), (N : Int) + 1) (-(N : Int), (N : Int) + 1) = (0, 1) :=
      lo_is (mul_pos0 (by show (0 : Int) < (N : Int) + 1; omega) (by show (0 : Int) < (N : Int) + 1; omega)) (by show (0 : Int) < 1; decide) (Nat.gcd_one_right _) (by
        show ((N : Int) * ((N : Int) + 1) + -(N : Int) * ((N : Int) + 1)) * 1 = 0 * (((N : Int) + 1) * ((N : Int) + 1))
        grind)
    have z1 : Sz (-1, (N : Int) + 1) := sz_of (by show (0 : Int) < (N : Int) + 1; omega) (by show (-1 : Int).natAbs < _; decide) (by show ((N : Int) + 1).natAbs < _; omega)
    have z2 : Sz (-1, 1) := sz_of (by decide) (by decide) (by decide)
    have z3 : Sz (0, 1) := sz_of (by decide) (by decide) (by decide)
    have z4 : Sz (-(N : Int), (N : Int) + 1) := sz_of (by show (0 : Int) < (N : Int) + 1; omega) (by show (-(N : Int)).natAbs < _; omega) (by show ((N : Int) + 1).natAbs < _; omega)
    have z5 : Sz (1, 1) := sz_of (by decide) (by decide) (by decide)
    refine c_fold rfl (.inl (SqL.of hS4)) fS4 zS mS fun v J1 j1 f1 => ?_
    walk_at "go"
    refine r_new (Nat.le_of_ble_eq_true rfl) fun p J2 n2 => ?_
    walk_at "go"
    refine c_same rfl ((f1.keep n2.tk).sm (r := ((N : Int), (N : Int) + 1)) ⟨p, rfl, Tp.new n2⟩ (sum_steps N)) fun J3 j3 => ?_
    walk_at "go"
    have k3 : Same H4 J3 := (j1.trans n2.same).trans j3
    refine c_fold rfl (.inr (hR4.keep (TK.of k3)).sq) (fR4.keep (TK.of k3)) zR mR fun v J4 j4 f4 => ?_
    walk_at "go"
    refine r_new (Nat.le_of_ble_eq_true rfl) fun p J5 n5 => ?_
    walk_at "go"
    refine c_same rfl ((f4.keep n5.tk).sm (r := ((N : Int) + 1, 1)) ⟨p, rfl, Tp.new n5⟩ (mul_rises N)) fun J6 j6 => ?_
    have k6 : Same H4 J6 := ((k3.trans j4).trans n5.same).trans j6
    walk_at "go"
    refine c_range2 (by decide) (by decide) (by omega) (by omega) (fun D i H' => J6 D = none ∧ Same J6 H' ∧ ∃ vs, H' D = some (.lst vs) ∧ vs.length ≤ i ∧ FrL K H' vs ((List.range i).map qTurn)) (fun _ => rfl) (fun D H2 n2 => ⟨n2.1, n2.same, [], n2.at, Nat.le_refl _, FrL.nil⟩) (fun D i H' hi q => ?_) fun U J7 q => ?_
    · obtain ⟨q0, q1, vs, q2, q3, q4⟩ := q
      walk_at "go"
      refine r_new (Nat.le_of_ble_eq_true rfl) fun p H3 n3 => ?_
      refine r_it (n3.same _ _ q2) (by omega) fun H4 mu => ⟨q0, mu.same0 (q1.trans n3.same) q0, _, mu.at, by rw [List.length_append, List.length_singleton]; omega, ?_⟩
      rw [map_snoc]
      exact ((q4.keep n3.tk).snoc ⟨p, rfl, Tp.new n3⟩).keep (mu.tk (n3.same _ _ q2))
    obtain ⟨_, sU, vU, hU, lU, fU⟩ := q
    rw [eN] at lU fU
    walk_at "go"
    refine r_new (Nat.le_of_ble_eq_true rfl) fun p8 J8 n8 => ?_
    walk_at "go"
    refine r_new (Nat.le_of_ble_eq_true rfl) fun p9 J9 n9 => ?_
    walk_at "go"
    refine r_cat ((n8.same.trans n9.same) _ _ hU) n9.at (by show vU.length + 1 ≤ _; omega) fun W J10 n10 => ?_
    have fW : FrL K J10 (vU ++ [.ref p8]) ((List.range N).map qTurn ++ [(-1, 1)]) := (fU.keep (TK.of ((n8.same.trans n9.same).trans n10.same))).snoc ⟨p8, rfl, (Tp.new n8).keep (TK.of (n9.same.trans n10.same))⟩
    have hW := n10.at
    have lW : (vU ++ [V.ref p8]).length ≤ 100 := by rw [List.length_append, List.length_singleton]; omega
    have k10 : Same H4 J10 := (((k6.trans sU).trans n8.same).trans n9.same).trans n10.same
    have zW : ∀ i ≤ ((List.range N).map qTurn ++ [(-1, 1)]).length, Sz ((((List.range N).map qTurn ++ [(-1, 1)]).take i).foldl mul2 (1, 1)) := sz_app zT (by rw [mul_turns, eT1]; exact z1)
    have mW := mem_app mT z2
    have eW : ((List.range N).map qTurn ++ [(-1, 1)]).foldl mul2 (1, 1) = (-1, (N : Int) + 1) := by rw [fold_app, mul_turns, eT1]
    clear fU hU sU n8 n9 n10
    walk_at "go"
    refine c_fold rfl (.inl (SqL.of hW)) fW zW mW fun v J11 j11 f11 => ?_
    walk_at "go"
    refine r_new (Nat.le_of_ble_eq_true rfl) fun p J12 n12 => ?_
    walk_at "go"
    refine c_same rfl ((f11.keep n12.tk).sm (r := (-1, (N : Int) + 1)) ⟨p, rfl, Tp.new n12⟩ eW) fun J13 j13 => ?_
    walk_at "go"
    have k13 : Same J10 J13 := (j11.trans n12.same).trans j13
    -- product_of(turned + [(0, 1)])
    refine r_new (Nat.le_of_ble_eq_true rfl) fun p14 J14 n14 => ?_
    walk_at "go"
    refine r_new (Nat.le_of_ble_eq_true rfl) fun p15 J15 n15 => ?_
    walk_at "go"
    refine r_cat (((k13.trans n14.same).trans n15.same) _ _ hW) n15.at (by show (vU ++ [V.ref p8]).length + 1 ≤ _; omega) fun X J16 n16 => ?_
    walk_at "go"
    refine c_fold rfl (.inl (SqL.of n16.at)) ((fW.keep (TK.of (((k13.trans n14.same).trans n15.same).trans n16.same))).snoc ⟨p14, rfl, (Tp.new n14).keep (TK.of (n15.same.trans n16.same))⟩) (sz_app zW (by rw [eW, eT2]; exact z3)) (mem_app mW z3) fun v J17 j17 f17 => ?_
    walk_at "go"
    refine r_new (Nat.le_of_ble_eq_true rfl) fun p J18 n18 => ?_
    walk_at "go"
    refine c_same rfl ((f17.keep n18.tk).sm (r := (0, 1)) ⟨p, rfl, Tp.new n18⟩ (by rw [fold_app, eW, eT2])) fun J19 j19 => ?_
    have k19 : Same H4 J19 := (k10.trans k13).trans (((((n14.same.trans n15.same).trans n16.same).trans j17).trans n18.same).trans j19)
    walk_at "go"
    -- sum_of(steps + [(-many, many + 1)])
    refine r_new (Nat.le_of_ble_eq_true rfl) fun p20 J20 n20 => ?_
    walk_at "go"
    refine r_new (Nat.le_of_ble_eq_true rfl) fun p21 J21 n21 => ?_
    walk_at "go"
    refine r_cat (((k19.trans n20.same).trans n21.same) _ _ hS4) n21.at (by show vS.length + 1 ≤ _; omega) fun Y J22 n22 => ?_
    walk_at "go"
    refine c_fold rfl (.inl (SqL.of n22.at)) ((fS4.keep (TK.of (((k19.trans n20.same).trans n21.same).trans n22.same))).snoc ⟨p20, rfl, (Tp.new n20).keep (TK.of (n21.same.trans n22.same))⟩) (sz_app zS (by rw [sum_steps, eS1]; exact z3)) (mem_app mS z4) fun v J23 j23 f23 => ?_
    walk_at "go"
    refine r_new (Nat.le_of_ble_eq_true rfl) fun p J24 n24 => ?_
    walk_at "go"
    refine c_same rfl ((f23.keep n24.tk).sm (r := (0, 1)) ⟨p, rfl, Tp.new n24⟩ (by rw [fold_app, sum_steps, eS1])) fun J25 j25 => ?_
    have k25 : Same H4 J25 := (((((k19.trans n20.same).trans n21.same).trans n22.same).trans j23).trans n24.same).trans j25
    walk_at "go"
    refine r_new (Nat.le_of_ble_eq_true rfl) fun p26 J26 n26 => ?_
    walk_at "go"
    refine c_fold rfl (.inr (Tp.new n26).sq) FrL.nil (fun i _ => by rw [List.take_nil]; exact z3) (fun q hq => nomatch hq) fun v J27 j27 f27 => ?_
    walk_at "go"
    refine r_new (Nat.le_of_ble_eq_true rfl) fun p J28 n28 => ?_
    walk_at "go"
    refine c_same rfl ((f27.keep n28.tk).sm (r := (0, 1)) ⟨p, rfl, Tp.new n28⟩ rfl) fun J29 j29 => ?_
    have k29 : Same H4 J29 := (((k25.trans n26.same).trans j27).trans n28.same).trans j29
    walk_at "go"
    refine r_new (Nat.le_of_ble_eq_true rfl) fun p30 J30 n30 => ?_
    walk_at "go"
    refine c_fold rfl (.inl (SqL.of n30.at)) FrL.nil (fun i _ => by rw [List.take_nil]; exact z5) (fun q hq => nomatch hq) fun v J31 j31 f31 => ?_
    walk_at "go"
    refine r_new (Nat.le_of_ble_eq_true rfl) fun p J32 n32 => ?_
    walk_at "go"
    refine c_same rfl ((f31.keep n32.tk).sm (r := (1, 1)) ⟨p, rfl, Tp.new n32⟩ rfl) fun J33 j33 => ?_
    exact k _ (d4.same ((((k29.trans n30.same).trans j31).trans n32.same).trans j33))
def sp_law (K : PySem.W.Frag) : Sp := fun vs H Q _ => ∃ (a : Addr) (ns : List Int), vs = [.ref a] ∧ SqL K H a (ns.map V.int) ∧ ns.length ≤ 63 ∧ ∀ H', Q (.bl true) H'
theorem c_deal {a : Addr} {ns : List Int} {i : Int} {H : Hp} {Q : VK} {E : XK} {vs : List V} (e : vs = [.ref a, .int i]) (h : SqL K H a (ns.map V.int)) (hl : ns.length ≤ 63) (q : ∀ a b H', Same H H' → DealOk H' a b → H a = none → H b = none → Q (.ref a) H') : sp_deal K vs H Q E := ⟨a, ns, i, e, h, hl, q⟩
theorem ok_law (T : Txt K mg) : FnOk P w K mg base CX0 6 T.a_law T.d_law p_law (sp_law K) := by
  have G_law_deal : FnOk P w K mg base CX0 1 T.a_law_deal T.d_law_deal p_law_deal (sp_deal K) := ok_deal T
  have G_law_pair : FnOk P w K mg base CX0 3 T.a_law_pair T.d_law_pair p_law_pair (sp_pair K) := ok_pair T
  have G_law_lowest : FnOk P w K mg base CX0 1 T.a_law_lowest T.d_law_lowest p_law_lowest (sp_lowest K) := ok_law_lowest T
  have G_law_same : FnOk P w K mg base CX0 2 T.a_law_same T.d_law_same p_law_same (sp_same K 1) := ok_same T 1
  have G_fraction : FnOk P w K mg base CX0 2 T.a_fraction T.d_fraction p_fraction (sp_lowest K) := ok_fraction T
  have G_law_two_hold : FnOk P w K mg base CX0 5 T.a_law_two_hold T.d_law_two_hold p_law_two_hold (spT K) := ok_two T
  have G_law_rows_hold : FnOk P w K mg base CX0 4 T.a_law_rows_hold T.d_law_rows_hold p_law_rows_hold (spT K) := ok_rows T
  have G_law_shapes_hold : FnOk P w K mg base CX0 4 T.a_law_shapes_hold T.d_law_shapes_hold p_law_shapes_hold (spT K) := ok_shapes T
  refine T.f_law.ok sc_law (fun vs H Q E h => ?_) (fun cdv A outer s H vs Q E hr h => ?_)
  · obtain ⟨a, ns, rfl, _⟩ := h; rfl
  · obtain ⟨a, ns, rfl, hS, hl, k⟩ := h
    refine ⟨_, (pss_cons (ps_set (i := 1) sc_law.nd rfl (.inl rfl) (pe_call G_law_deal (hr.mono (by omega)) (by rfl) T.g_law_deal T.f_law_deal.kp T.b_law_deal .nil pass0 (pa_cons (pv 0) (pa_cons pe_int pa_nil))))
      (pss_cons (ps_set (i := 2) sc_law.nd rfl (.inl rfl) (pe_call G_law_pair (hr.mono (by omega)) (by rfl) T.g_law_pair T.f_law_pair.kp T.b_law_pair .nil pass0 (pa_cons (pv 1) pa_nil)))
      (pss_cons (ps_set (i := 3) sc_law.nd rfl (.inl rfl) (pe_call G_law_lowest (hr.mono (by omega)) (by rfl) T.g_law_lowest T.f_law_lowest.kp T.b_law_lowest .nil pass0 (pa_cons (pe_ix (ix_sqK K) (pv 2) pe_int (fun _ _ => rfl)) (pa_cons (pe_ix (ix_sqK K) (pv 2) pe_int (fun _ _ => rfl)) pa_nil))))
      (pss_cons (ps_if (pt_not (pt_val (pe_call G_law_same (hr.mono (by omega)) (by rfl) T.g_law_same T.f_law_same.kp T.b_law_same .nil pass0 (pa_cons (pe_call G_fraction (hr.mono (by omega)) (by rfl) T.g_fraction T.f_fraction.kp T.b_fraction .nil pass0 (pa_cons (pe_ix (ix_sqK K) (pv 2) pe_int (fun _ _ => rfl)) (pa_cons (pe_ix (ix_sqK K) (pv 2) pe_int (fun _ _ => rfl)) pa_nil))) (pa_cons (pv 3) pa_nil)))))
        (pss_one (ps_ret pe_bl)) pss_nil)
      (pss_cons (ps_for PassesOwn.never rfl (pi_range1 rfl T.z_range (pa_cons pe_int pa_nil)) (pg_name (i := 4) sc_law.nd rfl (.inl rfl))
        (pss_one (ps_if (PW.pt (pw_or (pt_not (pt_val (pe_call G_law_two_hold (hr.mono (by omega)) (by rfl) T.g_law_two_hold T.f_law_two_hold.kp T.b_law_two_hold .nil pass0 (pa_cons (pv 1) pa_nil)))) (pw_or1 (pt_not (pt_val (pe_call G_law_rows_hold (hr.mono (by omega)) (by rfl) T.g_law_rows_hold T.f_law_rows_hold.kp T.b_law_rows_hold .nil pass0 (pa_cons (pv 1) pa_nil)))))))
        (pss_one (ps_ret pe_bl)) pss_nil)))
      (pss_one (ps_ret (pe_and (pe_call G_law_shapes_hold (hr.mono (by omega)) (by rfl) T.g_law_shapes_hold T.f_law_shapes_hold.kp T.b_law_shapes_hold .nil pass0 (pa_cons (pv 1) pa_nil)) (pe_one (pe_call G_law_same (hr.mono (by omega)) (by rfl) T.g_law_same T.f_law_same.kp T.b_law_same .nil pass0 (pa_cons (pe_call G_fraction (hr.mono (by omega)) (by rfl) T.g_fraction T.f_fraction.kp T.b_fraction .nil pass0 (pa_cons (pe_ix (ix_sqK K) (pv 2) pe_int (fun _ _ => rfl)) (pa_cons (pe_ix (ix_sqK K) (pv 2) pe_int (fun _ _ => rfl)) pa_nil))) (pa_cons (pv 3) pa_nil)))))))))))), ?_⟩
    walk_at "go0"
    refine c_deal rfl hS hl fun d b H1 s1 hd _ _ => ?_
    walk_at "go"
    refine c_pair rfl hd fun v r H2 R1 F1 d2 => ?_
    obtain ⟨t, rfl, T1⟩ := F1
    walk_at "go"
    refine c_lowest rfl R1.1 (raw_small R1).1 (raw_small R1).2 fun z H3 s3 F3 => ?_
    walk_at "go"
    refine c_lowest rfl R1.1 (raw_small R1).1 (raw_small R1).2 fun y H4 s4 F4 => ?_
    walk_at "go"
    refine c_same rfl (F4.sm (F3.keep (TK.of s4)) rfl) fun H5 s5 => ?_
    walk_at "go"
    have hd5 : DealOk H5 d b := ((d2.1.keep s3).keep s4).keep s5
    have T5 : Tp K H5 t [.int r.1, .int r.2] := T1.keep (TK.of ((s3.trans s4).trans s5))
    have F5 : Fr K H5 z (lo r.1 r.2) := F3.keep (TK.of (s4.trans s5))
    clear T1 F3 F4
    refine l_range1 (by decide) (by decide) (fun i σ' H' => ∃ y4, σ' = [some (.ref a), some (.ref d), some (.ref t), some z, y4] ∧ Dr d b H5 H') ⟨_, rfl, Dr.rfl' hd5⟩ (fun i σ' H' hi q => ?_) fun σ' H' q => ?_
    · obtain ⟨y4, rfl, dH⟩ := q
      walk_at "go"
      refine c_T rfl dH.1 fun J1 j1 => ?_
      walk_at "go"
      refine c_T rfl j1.1 fun J2 j2 => ?_
      walk_at "go"
      exact ⟨_, rfl, (dH.trans j1).trans j2⟩
    · obtain ⟨y4, rfl, dH⟩ := q
      have T6 := T5.keep dH.2.2
      have F6 := F5.keep dH.2.2
      walk_at "go"
      refine c_T rfl dH.1 fun J1 j1 => ?_
      have T7 := T6.keep j1.2.2
      have F7 := F6.keep j1.2.2
      walk_at "go"
      refine c_lowest rfl R1.1 (raw_small R1).1 (raw_small R1).2 fun y J2 j2 F8 => ?_
      walk_at "go"
      refine c_same rfl (F8.sm (F7.keep (TK.of j2)) rfl) fun J3 j3 => ?_
      exact k _
end
end Al

namespace Al
open PySem PySem.Spec PyProof.Rows L2
theorem all_mk {l : PySem.W.OpenLaw} {w : World} {K : PySem.W.Frag} {h : Heap} {mg : Str → Option Value} {fa : Addr} (X : K.In h) (G : h.Ns mainGlobals mg) (hfa : mg "law" = some (.ref fa))
    {f1 : Addr} {od1 an1 : Option Addr} {sl1 : Array (Option Value)} {oc1 kV1 dc1 pm1 cd1 ct1 : Value}
    {f2 : Addr} {od2 an2 : Option Addr} {sl2 : Array (Option Value)} {oc2 kV2 dc2 pm2 cd2 ct2 : Value}
    {f3 : Addr} {od3 an3 : Option Addr} {sl3 : Array (Option Value)} {oc3 kV3 dc3 pm3 cd3 ct3 : Value}
    {f4 : Addr} {od4 an4 : Option Addr} {sl4 : Array (Option Value)} {oc4 kV4 dc4 pm4 cd4 ct4 : Value}
    {f5 : Addr} {od5 an5 : Option Addr} {sl5 : Array (Option Value)} {oc5 kV5 dc5 pm5 cd5 ct5 : Value}
    {f6 : Addr} {od6 an6 : Option Addr} {sl6 : Array (Option Value)} {oc6 kV6 dc6 pm6 cd6 ct6 : Value}
    {f7 : Addr} {od7 an7 : Option Addr} {sl7 : Array (Option Value)} {oc7 kV7 dc7 pm7 cd7 ct7 : Value}
    {f8 : Addr} {od8 an8 : Option Addr} {sl8 : Array (Option Value)} {oc8 kV8 dc8 pm8 cd8 ct8 : Value}
    {f9 : Addr} {od9 an9 : Option Addr} {sl9 : Array (Option Value)} {oc9 kV9 dc9 pm9 cd9 ct9 : Value}
    {f10 : Addr} {od10 an10 : Option Addr} {sl10 : Array (Option Value)} {oc10 kV10 dc10 pm10 cd10 ct10 : Value}
    {f11 : Addr} {od11 an11 : Option Addr} {sl11 : Array (Option Value)} {oc11 kV11 dc11 pm11 cd11 ct11 : Value}
    {f12 : Addr} {od12 an12 : Option Addr} {sl12 : Array (Option Value)} {oc12 kV12 dc12 pm12 cd12 ct12 : Value}
    {f13 : Addr} {od13 an13 : Option Addr} {sl13 : Array (Option Value)} {oc13 kV13 dc13 pm13 cd13 ct13 : Value}
    {f14 : Addr} {od14 an14 : Option Addr} {sl14 : Array (Option Value)} {oc14 kV14 dc14 pm14 cd14 ct14 : Value}
    {f15 : Addr} {od15 an15 : Option Addr} {sl15 : Array (Option Value)} {oc15 kV15 dc15 pm15 cd15 ct15 : Value}
    {f16 : Addr} {od16 an16 : Option Addr} {sl16 : Array (Option Value)} {oc16 kV16 dc16 pm16 cd16 ct16 : Value}
    {f17 : Addr} {od17 an17 : Option Addr} {sl17 : Array (Option Value)} {oc17 kV17 dc17 pm17 cd17 ct17 : Value}
    {f18 : Addr} {od18 an18 : Option Addr} {sl18 : Array (Option Value)} {oc18 kV18 dc18 pm18 cd18 ct18 : Value}
    {f19 : Addr} {od19 an19 : Option Addr} {sl19 : Array (Option Value)} {oc19 kV19 dc19 pm19 cd19 ct19 : Value}
    {f20 : Addr} {od20 an20 : Option Addr} {sl20 : Array (Option Value)} {oc20 kV20 dc20 pm20 cd20 ct20 : Value}
    {f21 : Addr} {od21 an21 : Option Addr} {sl21 : Array (Option Value)} {oc21 kV21 dc21 pm21 cd21 ct21 : Value}
    {f22 : Addr} {od22 an22 : Option Addr} {sl22 : Array (Option Value)} {oc22 kV22 dc22 pm22 cd22 ct22 : Value}
    {f23 : Addr} {od23 an23 : Option Addr} {sl23 : Array (Option Value)} {oc23 kV23 dc23 pm23 cd23 ct23 : Value}
    {f24 : Addr} {od24 an24 : Option Addr} {sl24 : Array (Option Value)} {oc24 kV24 dc24 pm24 cd24 ct24 : Value}
    {q_NOUGHT : Addr} {qd_NOUGHT : Option Addr} {qn_NOUGHT : Nat} {qs_NOUGHT : Array (Option Value)} {t0_NOUGHT : Tok} {t1_NOUGHT : Tok}
    {q_ONE : Addr} {qd_ONE : Option Addr} {qn_ONE : Nat} {qs_ONE : Array (Option Value)} {t0_ONE : Tok} {t1_ONE : Tok}
    (a1 : PySem.W.nsIn K mainGlobals "lowest" = some (some (.ref f1)))
    (l1 : K.lookup f1 = some ⟨oc1, od1, .func (PySem.W.fnOf "lowest" "lowest" (defArgs s_lowest) (defBody s_lowest) (defScope s_lowest) .none kV1 dc1 pm1 an1 cd1 ct1), sl1⟩)
    (c1 : PySem.W.codeIn K cd1 "lowest" = true)
    (k1 : PySem.W.keepIn K (.ref f1) = true)
    (a2 : PySem.W.nsIn K mainGlobals "fraction" = some (some (.ref f2)))
    (l2 : K.lookup f2 = some ⟨oc2, od2, .func (PySem.W.fnOf "fraction" "fraction" (defArgs s_fraction) (defBody s_fraction) (defScope s_fraction) .none kV2 dc2 pm2 an2 cd2 ct2), sl2⟩)
    (c2 : PySem.W.codeIn K cd2 "fraction" = true)
    (k2 : PySem.W.keepIn K (.ref f2) = true)
    (a3 : PySem.W.nsIn K mainGlobals "added" = some (some (.ref f3)))
    (l3 : K.lookup f3 = some ⟨oc3, od3, .func (PySem.W.fnOf "added" "added" (defArgs s_added) (defBody s_added) (defScope s_added) .none kV3 dc3 pm3 an3 cd3 ct3), sl3⟩)
    (c3 : PySem.W.codeIn K cd3 "added" = true)
    (k3 : PySem.W.keepIn K (.ref f3) = true)
    (a4 : PySem.W.nsIn K mainGlobals "less" = some (some (.ref f4)))
    (l4 : K.lookup f4 = some ⟨oc4, od4, .func (PySem.W.fnOf "less" "less" (defArgs s_less) (defBody s_less) (defScope s_less) .none kV4 dc4 pm4 an4 cd4 ct4), sl4⟩)
    (c4 : PySem.W.codeIn K cd4 "less" = true)
    (k4 : PySem.W.keepIn K (.ref f4) = true)
    (a5 : PySem.W.nsIn K mainGlobals "multiplied" = some (some (.ref f5)))
    (l5 : K.lookup f5 = some ⟨oc5, od5, .func (PySem.W.fnOf "multiplied" "multiplied" (defArgs s_multiplied) (defBody s_multiplied) (defScope s_multiplied) .none kV5 dc5 pm5 an5 cd5 ct5), sl5⟩)
    (c5 : PySem.W.codeIn K cd5 "multiplied" = true)
    (k5 : PySem.W.keepIn K (.ref f5) = true)
    (a6 : PySem.W.nsIn K mainGlobals "divided" = some (some (.ref f6)))
    (l6 : K.lookup f6 = some ⟨oc6, od6, .func (PySem.W.fnOf "divided" "divided" (defArgs s_divided) (defBody s_divided) (defScope s_divided) .none kV6 dc6 pm6 an6 cd6 ct6), sl6⟩)
    (c6 : PySem.W.codeIn K cd6 "divided" = true)
    (k6 : PySem.W.keepIn K (.ref f6) = true)
    (a7 : PySem.W.nsIn K mainGlobals "opposite" = some (some (.ref f7)))
    (l7 : K.lookup f7 = some ⟨oc7, od7, .func (PySem.W.fnOf "opposite" "opposite" (defArgs s_opposite) (defBody s_opposite) (defScope s_opposite) .none kV7 dc7 pm7 an7 cd7 ct7), sl7⟩)
    (c7 : PySem.W.codeIn K cd7 "opposite" = true)
    (k7 : PySem.W.keepIn K (.ref f7) = true)
    (a8 : PySem.W.nsIn K mainGlobals "compared" = some (some (.ref f8)))
    (l8 : K.lookup f8 = some ⟨oc8, od8, .func (PySem.W.fnOf "compared" "compared" (defArgs s_compared) (defBody s_compared) (defScope s_compared) .none kV8 dc8 pm8 an8 cd8 ct8), sl8⟩)
    (c8 : PySem.W.codeIn K cd8 "compared" = true)
    (k8 : PySem.W.keepIn K (.ref f8) = true)
    (a9 : PySem.W.nsIn K mainGlobals "sum_of" = some (some (.ref f9)))
    (l9 : K.lookup f9 = some ⟨oc9, od9, .func (PySem.W.fnOf "sum_of" "sum_of" (defArgs s_sum_of) (defBody s_sum_of) (defScope s_sum_of) .none kV9 dc9 pm9 an9 cd9 ct9), sl9⟩)
    (c9 : PySem.W.codeIn K cd9 "sum_of" = true)
    (k9 : PySem.W.keepIn K (.ref f9) = true)
    (a10 : PySem.W.nsIn K mainGlobals "product_of" = some (some (.ref f10)))
    (l10 : K.lookup f10 = some ⟨oc10, od10, .func (PySem.W.fnOf "product_of" "product_of" (defArgs s_product_of) (defBody s_product_of) (defScope s_product_of) .none kV10 dc10 pm10 an10 cd10 ct10), sl10⟩)
    (c10 : PySem.W.codeIn K cd10 "product_of" = true)
    (k10 : PySem.W.keepIn K (.ref f10) = true)
    (a11 : PySem.W.nsIn K mainGlobals "_law_deal" = some (some (.ref f11)))
    (l11 : K.lookup f11 = some ⟨oc11, od11, .func (PySem.W.fnOf "_law_deal" "_law_deal" (defArgs s_law_deal) (defBody s_law_deal) (defScope s_law_deal) .none kV11 dc11 pm11 an11 cd11 ct11), sl11⟩)
    (c11 : PySem.W.codeIn K cd11 "_law_deal" = true)
    (k11 : PySem.W.keepIn K (.ref f11) = true)
    (a12 : PySem.W.nsIn K mainGlobals "_law_any" = some (some (.ref f12)))
    (l12 : K.lookup f12 = some ⟨oc12, od12, .func (PySem.W.fnOf "_law_any" "_law_any" (defArgs s_law_any) (defBody s_law_any) (defScope s_law_any) .none kV12 dc12 pm12 an12 cd12 ct12), sl12⟩)
    (c12 : PySem.W.codeIn K cd12 "_law_any" = true)
    (k12 : PySem.W.keepIn K (.ref f12) = true)
    (a13 : PySem.W.nsIn K mainGlobals "_law_of" = some (some (.ref f13)))
    (l13 : K.lookup f13 = some ⟨oc13, od13, .func (PySem.W.fnOf "_law_of" "_law_of" (defArgs s_law_of) (defBody s_law_of) (defScope s_law_of) .none kV13 dc13 pm13 an13 cd13 ct13), sl13⟩)
    (c13 : PySem.W.codeIn K cd13 "_law_of" = true)
    (k13 : PySem.W.keepIn K (.ref f13) = true)
    (a14 : PySem.W.nsIn K mainGlobals "_law_same" = some (some (.ref f14)))
    (l14 : K.lookup f14 = some ⟨oc14, od14, .func (PySem.W.fnOf "_law_same" "_law_same" (defArgs s_law_same) (defBody s_law_same) (defScope s_law_same) .none kV14 dc14 pm14 an14 cd14 ct14), sl14⟩)
    (c14 : PySem.W.codeIn K cd14 "_law_same" = true)
    (k14 : PySem.W.keepIn K (.ref f14) = true)
    (a15 : PySem.W.nsIn K mainGlobals "_law_lowest" = some (some (.ref f15)))
    (l15 : K.lookup f15 = some ⟨oc15, od15, .func (PySem.W.fnOf "_law_lowest" "_law_lowest" (defArgs s_law_lowest) (defBody s_law_lowest) (defScope s_law_lowest) .none kV15 dc15 pm15 an15 cd15 ct15), sl15⟩)
    (c15 : PySem.W.codeIn K cd15 "_law_lowest" = true)
    (k15 : PySem.W.keepIn K (.ref f15) = true)
    (a16 : PySem.W.nsIn K mainGlobals "_law_great" = some (some (.ref f16)))
    (l16 : K.lookup f16 = some ⟨oc16, od16, .func (PySem.W.fnOf "_law_great" "_law_great" (defArgs s_law_great) (defBody s_law_great) (defScope s_law_great) .none kV16 dc16 pm16 an16 cd16 ct16), sl16⟩)
    (c16 : PySem.W.codeIn K cd16 "_law_great" = true)
    (k16 : PySem.W.keepIn K (.ref f16) = true)
    (a17 : PySem.W.nsIn K mainGlobals "_law_signed" = some (some (.ref f17)))
    (l17 : K.lookup f17 = some ⟨oc17, od17, .func (PySem.W.fnOf "_law_signed" "_law_signed" (defArgs s_law_signed) (defBody s_law_signed) (defScope s_law_signed) .none kV17 dc17 pm17 an17 cd17 ct17), sl17⟩)
    (c17 : PySem.W.codeIn K cd17 "_law_signed" = true)
    (k17 : PySem.W.keepIn K (.ref f17) = true)
    (a18 : PySem.W.nsIn K mainGlobals "_law_pair" = some (some (.ref f18)))
    (l18 : K.lookup f18 = some ⟨oc18, od18, .func (PySem.W.fnOf "_law_pair" "_law_pair" (defArgs s_law_pair) (defBody s_law_pair) (defScope s_law_pair) .none kV18 dc18 pm18 an18 cd18 ct18), sl18⟩)
    (c18 : PySem.W.codeIn K cd18 "_law_pair" = true)
    (k18 : PySem.W.keepIn K (.ref f18) = true)
    (a19 : PySem.W.nsIn K mainGlobals "_law_second" = some (some (.ref f19)))
    (l19 : K.lookup f19 = some ⟨oc19, od19, .func (PySem.W.fnOf "_law_second" "_law_second" (defArgs s_law_second) (defBody s_law_second) (defScope s_law_second) .none kV19 dc19 pm19 an19 cd19 ct19), sl19⟩)
    (c19 : PySem.W.codeIn K cd19 "_law_second" = true)
    (k19 : PySem.W.keepIn K (.ref f19) = true)
    (a20 : PySem.W.nsIn K mainGlobals "_law_order" = some (some (.ref f20)))
    (l20 : K.lookup f20 = some ⟨oc20, od20, .func (PySem.W.fnOf "_law_order" "_law_order" (defArgs s_law_order) (defBody s_law_order) (defScope s_law_order) .none kV20 dc20 pm20 an20 cd20 ct20), sl20⟩)
    (c20 : PySem.W.codeIn K cd20 "_law_order" = true)
    (k20 : PySem.W.keepIn K (.ref f20) = true)
    (a21 : PySem.W.nsIn K mainGlobals "_law_two_hold" = some (some (.ref f21)))
    (l21 : K.lookup f21 = some ⟨oc21, od21, .func (PySem.W.fnOf "_law_two_hold" "_law_two_hold" (defArgs s_law_two_hold) (defBody s_law_two_hold) (defScope s_law_two_hold) .none kV21 dc21 pm21 an21 cd21 ct21), sl21⟩)
    (c21 : PySem.W.codeIn K cd21 "_law_two_hold" = true)
    (k21 : PySem.W.keepIn K (.ref f21) = true)
    (a22 : PySem.W.nsIn K mainGlobals "_law_rows_hold" = some (some (.ref f22)))
    (l22 : K.lookup f22 = some ⟨oc22, od22, .func (PySem.W.fnOf "_law_rows_hold" "_law_rows_hold" (defArgs s_law_rows_hold) (defBody s_law_rows_hold) (defScope s_law_rows_hold) .none kV22 dc22 pm22 an22 cd22 ct22), sl22⟩)
    (c22 : PySem.W.codeIn K cd22 "_law_rows_hold" = true)
    (k22 : PySem.W.keepIn K (.ref f22) = true)
    (a23 : PySem.W.nsIn K mainGlobals "_law_shapes_hold" = some (some (.ref f23)))
    (l23 : K.lookup f23 = some ⟨oc23, od23, .func (PySem.W.fnOf "_law_shapes_hold" "_law_shapes_hold" (defArgs s_law_shapes_hold) (defBody s_law_shapes_hold) (defScope s_law_shapes_hold) .none kV23 dc23 pm23 an23 cd23 ct23), sl23⟩)
    (c23 : PySem.W.codeIn K cd23 "_law_shapes_hold" = true)
    (k23 : PySem.W.keepIn K (.ref f23) = true)
    (a24 : PySem.W.nsIn K mainGlobals "law" = some (some (.ref f24)))
    (l24 : K.lookup f24 = some ⟨oc24, od24, .func (PySem.W.fnOf "law" "law" (defArgs s_law) (defBody s_law) (defScope s_law) .none kV24 dc24 pm24 an24 cd24 ct24), sl24⟩)
    (c24 : PySem.W.codeIn K cd24 "law" = true)
    (k24 : PySem.W.keepIn K (.ref f24) = true)
    (z_abs : PySem.W.nsIn K mainGlobals "abs" = some none)
    (z_int : PySem.W.nsIn K mainGlobals "int" = some none)
    (z_len : PySem.W.nsIn K mainGlobals "len" = some none)
    (z_isinstance : PySem.W.nsIn K mainGlobals "isinstance" = some none)
    (z_tuple : PySem.W.nsIn K mainGlobals "tuple" = some none)
    (z_range : PySem.W.nsIn K mainGlobals "range" = some none)
    (z_bool : PySem.W.nsIn K mainGlobals "bool" = some none)
    (z_str : PySem.W.nsIn K mainGlobals "str" = some none)
    (z_max : PySem.W.nsIn K mainGlobals "max" = some none)
    (h_gcd : PySem.W.nsIn K mainGlobals "gcd" = some (some (.builtin "math.gcd")))
    (h_NOUGHT : PySem.W.nsIn K mainGlobals "NOUGHT" = some (some (.ref q_NOUGHT)))
    (j_NOUGHT : K.lookup q_NOUGHT = some ⟨.type "tuple", qd_NOUGHT, .seq #[.int 0 t0_NOUGHT, .int 1 t1_NOUGHT] qn_NOUGHT, qs_NOUGHT⟩)
    (h_ONE : PySem.W.nsIn K mainGlobals "ONE" = some (some (.ref q_ONE)))
    (j_ONE : K.lookup q_ONE = some ⟨.type "tuple", qd_ONE, .seq #[.int 1 t0_ONE, .int 1 t1_ONE] qn_ONE, qs_ONE⟩) :
    ∃ fd : FuncData, (∀ (s : Shared) (v : Value), BindsTo s fd ⟨[v], []⟩ [("script", v)]) ∧ ∀ base : Heap, K.In base → base.Ns mainGlobals mg → FnOk l.prog w K mg base CX0 6 fa fd ["script"] (sp_law K) := by
  have e := hfa.symm.trans (PySem.W.mg_of X G a24)
  cases e
  have F1 := fun_mk (st := s_lowest) l1 c1 k1
  have B1 := F1.binds (ps := p_lowest) fun _ _ _ _ _ _ us hl => match us, hl with | [_, _], _ => rfl
  have F2 := fun_mk (st := s_fraction) l2 c2 k2
  have B2 := F2.binds (ps := p_fraction) fun _ _ _ _ _ _ us hl => match us, hl with | [_, _], _ => rfl
  have F3 := fun_mk (st := s_added) l3 c3 k3
  have B3 := F3.binds (ps := p_added) fun _ _ _ _ _ _ us hl => match us, hl with | [_, _], _ => rfl
  have F4 := fun_mk (st := s_less) l4 c4 k4
  have B4 := F4.binds (ps := p_less) fun _ _ _ _ _ _ us hl => match us, hl with | [_, _], _ => rfl
  have F5 := fun_mk (st := s_multiplied) l5 c5 k5
  have B5 := F5.binds (ps := p_multiplied) fun _ _ _ _ _ _ us hl => match us, hl with | [_, _], _ => rfl
  have F6 := fun_mk (st := s_divided) l6 c6 k6
  have B6 := F6.binds (ps := p_divided) fun _ _ _ _ _ _ us hl => match us, hl with | [_, _], _ => rfl
  have F7 := fun_mk (st := s_opposite) l7 c7 k7
  have B7 := F7.binds (ps := p_opposite) fun _ _ _ _ _ _ us hl => match us, hl with | [_], _ => rfl
  have F8 := fun_mk (st := s_compared) l8 c8 k8
  have B8 := F8.binds (ps := p_compared) fun _ _ _ _ _ _ us hl => match us, hl with | [_, _], _ => rfl
  have F9 := fun_mk (st := s_sum_of) l9 c9 k9
  have B9 := F9.binds (ps := p_sum_of) fun _ _ _ _ _ _ us hl => match us, hl with | [_], _ => rfl
  have F10 := fun_mk (st := s_product_of) l10 c10 k10
  have B10 := F10.binds (ps := p_product_of) fun _ _ _ _ _ _ us hl => match us, hl with | [_], _ => rfl
  have F11 := fun_mk (st := s_law_deal) l11 c11 k11
  have B11 := F11.binds (ps := p_law_deal) fun _ _ _ _ _ _ us hl => match us, hl with | [_, _], _ => rfl
  have F12 := fun_mk (st := s_law_any) l12 c12 k12
  have B12 := F12.binds (ps := p_law_any) fun _ _ _ _ _ _ us hl => match us, hl with | [_, _], _ => rfl
  have F13 := fun_mk (st := s_law_of) l13 c13 k13
  have B13 := F13.binds (ps := p_law_of) fun _ _ _ _ _ _ us hl => match us, hl with | [_, _], _ => rfl
  have F14 := fun_mk (st := s_law_same) l14 c14 k14
  have B14 := F14.binds (ps := p_law_same) fun _ _ _ _ _ _ us hl => match us, hl with | [_, _], _ => rfl
  have F15 := fun_mk (st := s_law_lowest) l15 c15 k15
  have B15 := F15.binds (ps := p_law_lowest) fun _ _ _ _ _ _ us hl => match us, hl with | [_, _], _ => rfl
  have F16 := fun_mk (st := s_law_great) l16 c16 k16
  have B16 := F16.binds (ps := p_law_great) fun _ _ _ _ _ _ us hl => match us, hl with | [_], _ => rfl
  have F17 := fun_mk (st := s_law_signed) l17 c17 k17
  have B17 := F17.binds (ps := p_law_signed) fun _ _ _ _ _ _ us hl => match us, hl with | [_, _], _ => rfl
  have F18 := fun_mk (st := s_law_pair) l18 c18 k18
  have B18 := F18.binds (ps := p_law_pair) fun _ _ _ _ _ _ us hl => match us, hl with | [_], _ => rfl
  have F19 := fun_mk (st := s_law_second) l19 c19 k19
  have B19 := F19.binds (ps := p_law_second) fun _ _ _ _ _ _ us hl => match us, hl with | [_, _], _ => rfl
  have F20 := fun_mk (st := s_law_order) l20 c20 k20
  have B20 := F20.binds (ps := p_law_order) fun _ _ _ _ _ _ us hl => match us, hl with | [_, _], _ => rfl
  have F21 := fun_mk (st := s_law_two_hold) l21 c21 k21
  have B21 := F21.binds (ps := p_law_two_hold) fun _ _ _ _ _ _ us hl => match us, hl with | [_], _ => rfl
  have F22 := fun_mk (st := s_law_rows_hold) l22 c22 k22
  have B22 := F22.binds (ps := p_law_rows_hold) fun _ _ _ _ _ _ us hl => match us, hl with | [_], _ => rfl
  have F23 := fun_mk (st := s_law_shapes_hold) l23 c23 k23
  have B23 := F23.binds (ps := p_law_shapes_hold) fun _ _ _ _ _ _ us hl => match us, hl with | [_], _ => rfl
  have F24 := fun_mk (st := s_law) l24 c24 k24
  have B24 := F24.binds (ps := p_law) fun _ _ _ _ _ _ us hl => match us, hl with | [_], _ => rfl
  have KB_fraction_bottom_top : KBinds K (PySem.W.fnOf "fraction" "fraction" (defArgs s_fraction) (defBody s_fraction) (defScope s_fraction) .none kV2 dc2 pm2 an2 cd2 ct2) p_fraction ["bottom", "top"] kg_fraction_bottom_top kg_fraction_bottom_top := ⟨fun s us ws _ hl => by
    revert hl
    unfold kg_fraction_bottom_top
    split
    · exact fun _ => .of_eq rfl
    · exact fun z => absurd z (by decide), kr_fraction_bottom_top⟩
  have KB_less_other_one : KBinds K (PySem.W.fnOf "less" "less" (defArgs s_less) (defBody s_less) (defScope s_less) .none kV4 dc4 pm4 an4 cd4 ct4) p_less ["other", "one"] kg_less_other_one kg_less_other_one := ⟨fun s us ws _ hl => by
    revert hl
    unfold kg_less_other_one
    split
    · exact fun _ => .of_eq rfl
    · exact fun z => absurd z (by decide), kr_less_other_one⟩
  have KB_added_other_one : KBinds K (PySem.W.fnOf "added" "added" (defArgs s_added) (defBody s_added) (defScope s_added) .none kV3 dc3 pm3 an3 cd3 ct3) p_added ["other", "one"] kg_added_other_one kg_added_other_one := ⟨fun s us ws _ hl => by
    revert hl
    unfold kg_added_other_one
    split
    · exact fun _ => .of_eq rfl
    · exact fun z => absurd z (by decide), kr_added_other_one⟩
  have KB_multiplied_other_one : KBinds K (PySem.W.fnOf "multiplied" "multiplied" (defArgs s_multiplied) (defBody s_multiplied) (defScope s_multiplied) .none kV5 dc5 pm5 an5 cd5 ct5) p_multiplied ["other", "one"] kg_multiplied_other_one kg_multiplied_other_one := ⟨fun s us ws _ hl => by
    revert hl
    unfold kg_multiplied_other_one
    split
    · exact fun _ => .of_eq rfl
    · exact fun z => absurd z (by decide), kr_multiplied_other_one⟩
  have KB_divided_other_one : KBinds K (PySem.W.fnOf "divided" "divided" (defArgs s_divided) (defBody s_divided) (defScope s_divided) .none kV6 dc6 pm6 an6 cd6 ct6) p_divided ["other", "one"] kg_divided_other_one kg_divided_other_one := ⟨fun s us ws _ hl => by
    revert hl
    unfold kg_divided_other_one
    split
    · exact fun _ => .of_eq rfl
    · exact fun z => absurd z (by decide), kr_divided_other_one⟩
  have KB_compared_other_one : KBinds K (PySem.W.fnOf "compared" "compared" (defArgs s_compared) (defBody s_compared) (defScope s_compared) .none kV8 dc8 pm8 an8 cd8 ct8) p_compared ["other", "one"] kg_compared_other_one kg_compared_other_one := ⟨fun s us ws _ hl => by
    revert hl
    unfold kg_compared_other_one
    split
    · exact fun _ => .of_eq rfl
    · exact fun z => absurd z (by decide), kr_compared_other_one⟩
  have KB_product_of_fractions : KBinds K (PySem.W.fnOf "product_of" "product_of" (defArgs s_product_of) (defBody s_product_of) (defScope s_product_of) .none kV10 dc10 pm10 an10 cd10 ct10) p_product_of ["fractions"] kg_product_of_fractions kg_product_of_fractions := ⟨fun s us ws _ hl => by
    revert hl
    unfold kg_product_of_fractions
    split
    · exact fun _ => .of_eq rfl
    · exact fun z => absurd z (by decide), kr_product_of_fractions⟩
  have KB_sum_of_fractions : KBinds K (PySem.W.fnOf "sum_of" "sum_of" (defArgs s_sum_of) (defBody s_sum_of) (defScope s_sum_of) .none kV9 dc9 pm9 an9 cd9 ct9) p_sum_of ["fractions"] kg_sum_of_fractions kg_sum_of_fractions := ⟨fun s us ws _ hl => by
    revert hl
    unfold kg_sum_of_fractions
    split
    · exact fun _ => .of_eq rfl
    · exact fun z => absurd z (by decide), kr_sum_of_fractions⟩
  exact ⟨PySem.W.fnOf "law" "law" (defArgs s_law) (defBody s_law) (defScope s_law) .none kV24 dc24 pm24 an24 cd24 ct24, fun s v => .of_eq rfl, fun base _ _ => ok_law ⟨
    _,
    _,
    F1,
    B1,
    PySem.W.mg_of X G a1,
    _,
    _,
    F2,
    B2,
    PySem.W.mg_of X G a2,
    _,
    _,
    F3,
    B3,
    PySem.W.mg_of X G a3,
    _,
    _,
    F4,
    B4,
    PySem.W.mg_of X G a4,
    _,
    _,
    F5,
    B5,
    PySem.W.mg_of X G a5,
    _,
    _,
    F6,
    B6,
    PySem.W.mg_of X G a6,
    _,
    _,
    F7,
    B7,
    PySem.W.mg_of X G a7,
    _,
    _,
    F8,
    B8,
    PySem.W.mg_of X G a8,
    _,
    _,
    F9,
    B9,
    PySem.W.mg_of X G a9,
    _,
    _,
    F10,
    B10,
    PySem.W.mg_of X G a10,
    _,
    _,
    F11,
    B11,
    PySem.W.mg_of X G a11,
    _,
    _,
    F12,
    B12,
    PySem.W.mg_of X G a12,
    _,
    _,
    F13,
    B13,
    PySem.W.mg_of X G a13,
    _,
    _,
    F14,
    B14,
    PySem.W.mg_of X G a14,
    _,
    _,
    F15,
    B15,
    PySem.W.mg_of X G a15,
    _,
    _,
    F16,
    B16,
    PySem.W.mg_of X G a16,
    _,
    _,
    F17,
    B17,
    PySem.W.mg_of X G a17,
    _,
    _,
    F18,
    B18,
    PySem.W.mg_of X G a18,
    _,
    _,
    F19,
    B19,
    PySem.W.mg_of X G a19,
    _,
    _,
    F20,
    B20,
    PySem.W.mg_of X G a20,
    _,
    _,
    F21,
    B21,
    PySem.W.mg_of X G a21,
    _,
    _,
    F22,
    B22,
    PySem.W.mg_of X G a22,
    _,
    _,
    F23,
    B23,
    PySem.W.mg_of X G a23,
    _,
    _,
    F24,
    B24,
    PySem.W.mg_of X G a24,
    KB_fraction_bottom_top,
    KB_less_other_one,
    KB_added_other_one,
    KB_multiplied_other_one,
    KB_divided_other_one,
    KB_compared_other_one,
    KB_product_of_fractions,
    KB_sum_of_fractions,
    PySem.W.mg_none_of X G z_abs,
    PySem.W.mg_none_of X G z_int,
    PySem.W.mg_none_of X G z_len,
    PySem.W.mg_none_of X G z_isinstance,
    PySem.W.mg_none_of X G z_tuple,
    PySem.W.mg_none_of X G z_range,
    PySem.W.mg_none_of X G z_bool,
    PySem.W.mg_none_of X G z_str,
    PySem.W.mg_none_of X G z_max,
    PySem.W.mg_of X G h_gcd,
    _,
    PySem.W.mg_of X G h_NOUGHT,
    fun _ => .inr ⟨_, _, _, j_NOUGHT, rfl, rfl, by show 2 ≤ sizeLine; decide, (.cons ⟨_, rfl⟩ (.cons ⟨_, rfl⟩ .nil))⟩,
    _,
    PySem.W.mg_of X G h_ONE,
    fun _ => .inr ⟨_, _, _, j_ONE, rfl, rfl, by show 2 ≤ sizeLine; decide, (.cons ⟨_, rfl⟩ (.cons ⟨_, rfl⟩ .nil))⟩⟩⟩
end Al
open PySem PySem.W PyProof.Rows
set_option maxRecDepth 100000 in
set_option maxHeartbeats 0 in
theorem PySem.Challenge.cw_allunmoved_k02_fractions_in_lowest_terms_holds : PySem.Challenge.rw_allunmoved_k02_fractions_in_lowest_terms.Holds := by
  w_on; o_law; k_head; (case hw => w_witness2)
  k_fill
  refine L2.walk_of (l := PySem.Challenge.rw_allunmoved_k02_fractions_in_lowest_terms) (n := 63) (k := 6) (x := "script") (CX := fun _ => L2.CX0) (sp := fun w => Al.sp_law _) rfl (by decide) rfl ⟨rfl, by decide, by decide⟩ (fun w h Y => PySem.W.kIn_of Y) ?F (fun _ _ a ns hl _ hS => ⟨a, ns, rfl, hS, hl, fun _ => rfl⟩) (fun _ _ _ _ _ h => h)
  case F =>
    intro w mg fa h KX G hmg
    refine' Al.all_mk KX G hmg ?a1 ?l1 ?c1 ?k1 ?a2 ?l2 ?c2 ?k2 ?a3 ?l3 ?c3 ?k3 ?a4 ?l4 ?c4 ?k4 ?a5 ?l5 ?c5 ?k5 ?a6 ?l6 ?c6 ?k6 ?a7 ?l7 ?c7 ?k7 ?a8 ?l8 ?c8 ?k8 ?a9 ?l9 ?c9 ?k9 ?a10 ?l10 ?c10 ?k10 ?a11 ?l11 ?c11 ?k11 ?a12 ?l12 ?c12 ?k12 ?a13 ?l13 ?c13 ?k13 ?a14 ?l14 ?c14 ?k14 ?a15 ?l15 ?c15 ?k15 ?a16 ?l16 ?c16 ?k16 ?a17 ?l17 ?c17 ?k17 ?a18 ?l18 ?c18 ?k18 ?a19 ?l19 ?c19 ?k19 ?a20 ?l20 ?c20 ?k20 ?a21 ?l21 ?c21 ?k21 ?a22 ?l22 ?c22 ?k22 ?a23 ?l23 ?c23 ?k23 ?a24 ?l24 ?c24 ?k24 ?z_abs ?z_int ?z_len ?z_isinstance ?z_tuple ?z_range ?z_bool ?z_str ?z_max ?h_gcd ?h_NOUGHT ?j_NOUGHT ?h_ONE ?j_ONE
    (case a1 => k_is)
    (case l1 => k_is)
    (case c1 => k_is)
    (case k1 => k_is)
    (case a2 => k_is)
    (case l2 => k_is)
    (case c2 => k_is)
    (case k2 => k_is)
    (case a3 => k_is)
    (case l3 => k_is)
    (case c3 => k_is)
    (case k3 => k_is)
    (case a4 => k_is)
    (case l4 => k_is)
    (case c4 => k_is)
    (case k4 => k_is)
    (case a5 => k_is)
    (case l5 => k_is)
    (case c5 => k_is)
    (case k5 => k_is)
    (case a6 => k_is)
    (case l6 => k_is)
    (case c6 => k_is)
    (case k6 => k_is)
    (case a7 => k_is)
    (case l7 => k_is)
    (case c7 => k_is)
    (case k7 => k_is)
    (case a8 => k_is)
    (case l8 => k_is)
    (case c8 => k_is)
    (case k8 => k_is)
    (case a9 => k_is)
    (case l9 => k_is)
    (case c9 => k_is)
    (case k9 => k_is)
    (case a10 => k_is)
    (case l10 => k_is)
    (case c10 => k_is)
    (case k10 => k_is)
    (case a11 => k_is)
    (case l11 => k_is)
    (case c11 => k_is)
    (case k11 => k_is)
    (case a12 => k_is)
    (case l12 => k_is)
    (case c12 => k_is)
    (case k12 => k_is)
    (case a13 => k_is)
    (case l13 => k_is)
    (case c13 => k_is)
    (case k13 => k_is)
    (case a14 => k_is)
    (case l14 => k_is)
    (case c14 => k_is)
    (case k14 => k_is)
    (case a15 => k_is)
    (case l15 => k_is)
    (case c15 => k_is)
    (case k15 => k_is)
    (case a16 => k_is)
    (case l16 => k_is)
    (case c16 => k_is)
    (case k16 => k_is)
    (case a17 => k_is)
    (case l17 => k_is)
    (case c17 => k_is)
    (case k17 => k_is)
    (case a18 => k_is)
    (case l18 => k_is)
    (case c18 => k_is)
    (case k18 => k_is)
    (case a19 => k_is)
    (case l19 => k_is)
    (case c19 => k_is)
    (case k19 => k_is)
    (case a20 => k_is)
    (case l20 => k_is)
    (case c20 => k_is)
    (case k20 => k_is)
    (case a21 => k_is)
    (case l21 => k_is)
    (case c21 => k_is)
    (case k21 => k_is)
    (case a22 => k_is)
    (case l22 => k_is)
    (case c22 => k_is)
    (case k22 => k_is)
    (case a23 => k_is)
    (case l23 => k_is)
    (case c23 => k_is)
    (case k23 => k_is)
    (case a24 => k_is)
    (case l24 => k_is)
    (case c24 => k_is)
    (case k24 => k_is)
    (case z_abs => k_is)
    (case z_int => k_is)
    (case z_len => k_is)
    (case z_isinstance => k_is)
    (case z_tuple => k_is)
    (case z_range => k_is)
    (case z_bool => k_is)
    (case z_str => k_is)
    (case z_max => k_is)
    (case h_gcd => k_is)
    (case h_NOUGHT => k_is)
    (case j_NOUGHT => k_is)
    (case h_ONE => k_is)
    (case j_ONE => k_is)
#print axioms PySem.Challenge.cw_allunmoved_k02_fractions_in_lowest_terms_holds

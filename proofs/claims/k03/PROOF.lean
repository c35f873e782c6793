import PyProof.Rows.All
import Wide.All
import OpenK.AllK
import Wide.FinOn
import KE.KStateDown
import HandS.ForMost
import HandS.Exc
import HandS.TryOnly
import HandS.ExcOwn
import HandS.WordsExc
import HandS.TryMany
import HandS.IsInst
import HandS.ExcIs
import HandS.More
import HandS.DeepEq
import HandS.DictComp
import HandS.Walk
import HandS.Codes
import HandS.SuiteRaise
import HandS.Defaults
import HandS.HeadHook2
import HandS.Head0
import HandS.Head1
import HandS.Head2
import HandS.HeadEnd
import PySem.Challenge.RW_packdelta_k03_whole_least_change
set_option Elab.async false
set_option linter.all false
set_option maxRecDepth 100000
set_option maxHeartbeats 4000000
/-! PkA: one lemma for each reading, so that a reading is walked by its head. -/
namespace Pk
open PySem PySem.Spec L2
open C8 (tCut pss_cut)

/-- the addresses that a row's text has, by name -/
structure Ad where
  K : PySem.W.Frag
  cPack : Addr
  cBadBound : Addr
  cBadRows : Addr
  cInRing : Addr
  cNoFit : Addr
  cNoVersion : Addr
  cTooFar : Addr
  cPackError : Addr

/-! ### texts as lists of signs -/
abbrev S (l : List Nat) : Str := ⟨l.toArray⟩
theorem S_len (l : List Nat) : (S l).length = l.length := by simp [Str.length]
theorem S_app (a b : List Nat) : (S a) ++ (S b) = S (a ++ b) := by
  show Str.append (S a) (S b) = _
  simp [Str.append]
theorem S_inj {a b : List Nat} (h : S a = S b) : a = b := by
  have := congrArg (fun s : Str => s.cps.toList) h
  simpa using this
theorem S_of (z : Str) : ∃ l, z = S l := ⟨z.cps.toList, by cases z; simp⟩
/-- signs that there are -/
abbrev Ok (l : List Nat) : Prop := ∀ c ∈ l, c < 1114112
theorem lit (s : String) (n : Nat) (h : (Str.ofString s).length = n) (h2 : ((Str.ofString s).cps.toList.all fun c => decide (c < 1114112)) = true) : ∃ l, Str.ofString s = S l ∧ l.length = n ∧ Ok l := by
  obtain ⟨l, e⟩ := S_of (Str.ofString s)
  refine ⟨l, e, by rw [← S_len, ← e, h], fun c hc => ?_⟩
  rw [e] at h2
  have h3 : ∀ x, x ∈ l → x < 1114112 := by simpa using h2
  exact h3 c hc
theorem S_lit (s : String) (l : List Nat) (h : Str.ofString s = S l) : (Str.ofString s) = S l := h
def cutL (l : List Nat) (lo hi : Option Int) : List Nat := (l.drop (HT.sIx l.length 0 lo)).take (HT.sIx l.length l.length hi - HT.sIx l.length 0 lo)
theorem S_cut (l : List Nat) (lo hi : Option Int) : cutS (S l) lo hi = S (cutL l lo hi) := by
  unfold cutS cutL
  rw [S_len]

/-! ### operators of several kinds -/
def rAdd3 : R2 := fun x y H Q => (∃ i j, x = .int i ∧ y = .int j ∧ Q (.int (i + j)) H) ∨ (∃ i j, x = .str i ∧ y = .str j ∧ i.length + j.length ≤ sizeLine ∧ Q (.str (i ++ j)) H) ∨ rCat x y H Q
theorem op_add3 {X : Cx} : OpR X (binaryOp .Add) rAdd3 := OpR.or op_add (OpR.or op_add_str op_cat)
def rSub : R2 := rI0 fun i j => .int (i - j)
def rMul : R2 := rI CMul fun i j => .int (i * j)
def rDiv : R2 := rI CDiv fun i j => .int (i / j)
def rMod : R2 := rI (fun _ j => 0 < j) fun i j => .int (i % j)
def rPow : R2 := rI CPow fun i j => .int (i ^ j.toNat)
def rNeg : V → Hp → VK → Prop := rU fun i => .int (-i)
def rLt : R2 := rI0 fun i j => .bl (decide (i < j))
def rLe : R2 := rI0 fun i j => .bl (decide (i ≤ j))
def rGt : R2 := rI0 fun i j => .bl (decide (j < i))
def rGe : R2 := rI0 fun i j => .bl (decide (j ≤ i))
def rEqG (K : PySem.W.Frag) : R2 := fun x y H Q => rEq x y H Q ∨ rEqD K x y H Q ∨ rEqDA x y H Q ∨ rEqV K x y H Q
def rNeG (K : PySem.W.Frag) : R2 := fun x y H Q => rNe x y H Q ∨ rNeD K x y H Q ∨ rNeDA x y H Q
theorem op_eqG {X : Cx} (hu : X.A.units + 64 < cLine) : OpR X (compareOp .Eq) (rEqG X.K) := OpR.or op_eq (OpR.or (op_eqD hu) (OpR.or (op_eq_dictA (by omega)) (op_eqV hu)))
theorem op_neG {X : Cx} (hu : X.A.units + 64 < cLine) : OpR X (compareOp .NotEq) (rNeG X.K) := OpR.or op_ne (OpR.or (op_neD hu) (op_ne_dictA (by omega)))
def rSl2 (K : PySem.W.Frag) : V → Option Int → Option Int → Hp → VK → Prop := fun x lo hi H Q => rSlL K x lo hi H Q ∨ rSlS x lo hi H Q
theorem sl_2 {X : Cx} : SlR X (rSl2 X.K) := SlR.or sl_list sl_str
theorem callR_or {X : Cx} {f : Value} {r r' : List V → Hp → VK → Prop} (h : CallR X f r) (h' : CallR X f r') : CallR X f (fun xs H Q => r xs H Q ∨ r' xs H Q) := by
  intro pins s σ H xs us Q I rv hw
  rcases hw with hw | hw
  · exact h pins s σ H xs us Q I rv hw
  · exact h' pins s σ H xs us Q I rv hw
def rLenG (K : PySem.W.Frag) : List V → Hp → VK → Prop := fun xs H Q => (∃ p ys, xs = [.ref p] ∧ (SqL K H p ys ∨ SqT K H p ys) ∧ Q (.int ys.length) H) ∨ (∃ z, xs = [.str z] ∧ z.length ≤ sizeLine ∧ Q (.int z.length) H) ∨ (∃ a kvs, xs = [V.ref a] ∧ H a = some (.dK kvs) ∧ Q (.int kvs.length) H)
theorem call_lenG {X : Cx} : CallR X (.builtin "len") (rLenG X.K) := callR_or call_len_seq (callR_or call_len_str call_lenD)
def rListG (K : PySem.W.Frag) : List V → Hp → VK → Prop := fun xs H Q => (∃ p ys, xs = [.ref p] ∧ (SqL K H p ys ∨ SqT K H p ys) ∧ ∀ l, H l = none → Q (.ref l) (upd H l (.lst ys))) ∨ (∃ (a : Addr) (kvs : List (Key × V)), xs = [.ref a] ∧ Rd H a (.dK kvs) ∧ ∀ p, H p = none → Q (.ref p) (upd H p (.lst (kvs.map fun kv => kV kv.1))))
theorem call_listG {X : Cx} (hc : X.calm = true) : CallR X (.type "list") (rListG X.K) := callR_or call_list_of (call_listD hc)
def rDictD : List V → Hp → VK → Prop := fun xs H Q => ∃ (a : Addr) (kvs : List (Key × V)), xs = [.ref a] ∧ Rd H a (.dK kvs) ∧ ∀ p, H p = none → Q (.ref p) (upd H p (.dK kvs))
def rSortedDI : List V → Hp → VK → Prop := fun xs H Q => ∃ (a : Addr) (kvs : List (Key × V)) (ks : List Int), xs = [.ref a] ∧ Rd H a (.dK kvs) ∧ kvs.map (·.1) = ks.map Sum.inl ∧ ks.length < 64 ∧ ∀ (ys : List Int) (p : Addr), ys.Perm ks → ys.Pairwise (· ≤ ·) → H p = none → Q (.ref p) (upd H p (.lst (ys.map V.int)))
def rStrI : List V → Hp → VK → Prop := fun xs H Q => ∃ i, xs = [.int i] ∧ i.natAbs.log2 < 1920 ∧ Q (.str (toString i)) H
def rInt1 : List V → Hp → VK → Prop := fun xs H Q => (∃ i, xs = [.int i] ∧ Q (.int i) H) ∨ ∃ k, xs = [.bl k] ∧ Q (.int (if k then 1 else 0)) H
def rMax2 : List V → Hp → VK → Prop := fun xs H Q => ∃ i j, xs = [.int i, .int j] ∧ Q (.int (if j > i then j else i)) H
def rMin2 : List V → Hp → VK → Prop := fun xs H Q => ∃ i j, xs = [.int i, .int j] ∧ Q (.int (if j < i then j else i)) H
def rJoin (K : PySem.W.Frag) : V → List V → Hp → VK → Prop := fun x xs H Q => ∃ a p, ∃ ys : List Str, x = .str a ∧ xs = [.ref p] ∧ (SqL K H p (ys.map V.str) ∨ SqT K H p (ys.map V.str)) ∧ (ys.map (·.length)).sum + ys.length * a.length ≤ 16777216 ∧ Q (.str (Txt.join a ys)) H
def tRaise (C : Addr) (E : XK) : TS := fun _ _ H => E (.ref C) none H

/-! ### readings by their heads; the ends in the form ⟨nx, rt, bk, ct⟩ -/
section
variable {t u : TS} {nx : St → Hp → Prop} {rt : VK} {bk ct : St → Hp → Prop} {σ : St} {H : Hp} {te ta tb : TE} {g : TG} {tt tu : TT} {Q : VK} {QB : Bool → Hp → Prop} {QA : List V → Hp → Prop}
theorem r_seq (h : t ⟨u ⟨nx, rt, bk, ct⟩, rt, bk, ct⟩ σ H) : tSeq t u ⟨nx, rt, bk, ct⟩ σ H := h
theorem r_cut (Mid : St → Hp → Prop) (h : t ⟨Mid, rt, bk, ct⟩ σ H) (h2 : ∀ σ' H', Mid σ' H' → u ⟨nx, rt, bk, ct⟩ σ' H') : tCut t u ⟨nx, rt, bk, ct⟩ σ H := ⟨Mid, h, h2⟩
theorem r_seqD {D : Ends} (h : t ⟨u D, D.rt, D.bk, D.ct⟩ σ H) : tSeq t u D σ H := h
theorem r_next (h : nx σ H) : tNext ⟨nx, rt, bk, ct⟩ σ H := h
theorem r_brk (h : bk σ H) : tBreak ⟨nx, rt, bk, ct⟩ σ H := h
theorem r_asg (h : te σ H fun x H1 => g x σ H1 nx) : tAsg te g ⟨nx, rt, bk, ct⟩ σ H := h
theorem r_drop (h : te σ H fun _ H1 => nx σ H1) : tDrop te ⟨nx, rt, bk, ct⟩ σ H := h
theorem r_ret (h : te σ H rt) : tRet te ⟨nx, rt, bk, ct⟩ σ H := h
theorem r_ifS (h : tt σ H fun b H1 => if b = true then t ⟨nx, rt, bk, ct⟩ σ H1 else u ⟨nx, rt, bk, ct⟩ σ H1) : tIfS tt t u ⟨nx, rt, bk, ct⟩ σ H := h
theorem r_ite {b : Bool} {A B : Prop} (h1 : b = true → A) (h2 : b = false → B) : if b = true then A else B := by
  cases b
  · rw [if_neg Bool.false_ne_true]; exact h2 rfl
  · rw [if_pos rfl]; exact h1 rfl
theorem r_dec {p : Prop} [Decidable p] {A B : Prop} (h1 : p → A) (h2 : ¬ p → B) : if decide p = true then A else B := by
  by_cases h : p
  · rw [decide_eq_true h, if_pos rfl]; exact h1 h
  · rw [decide_eq_false h, if_neg Bool.false_ne_true]; exact h2 h
theorem r_ndec {p : Prop} [Decidable p] {A B : Prop} (h1 : ¬ p → A) (h2 : p → B) : if (!decide p) = true then A else B := by
  by_cases h : p
  · rw [decide_eq_true h]; exact h2 h
  · rw [decide_eq_false h]; exact h1 h
theorem r_nT {A B : Prop} (h : B) : if (!true) = true then A else B := by
  rw [if_neg (by decide)]; exact h
theorem r_nF {A B : Prop} (h : A) : if (!false) = true then A else B := by
  rw [if_pos (by decide)]; exact h
theorem r_raise {C : Addr} {E : XK} {D : Ends} (h : E (.ref C) none H) : tRaise C E D σ H := h
/-! tests -/
theorem r_test (h : te σ H fun x H' => ∃ k, x = .bl k ∧ QB k H') : tTest te σ H QB := h
theorem r_B (h : te σ H fun x H1 => ∃ c, x = .bl c ∧ QB c H1) : tB te σ H QB := h
theorem r_bl {b : Bool} (h : QB b H) : ∃ k, V.bl b = .bl k ∧ QB k H := ⟨b, rfl, h⟩
theorem r_and (h : tt σ H fun c H1 => if c = true then tu σ H1 QB else QB false H1) : tAnd tt tu σ H QB := h
theorem r_or (h : tt σ H fun c H1 => if c = true then QB true H1 else tu σ H1 QB) : tOr tt tu σ H QB := h
theorem r_not (h : tt σ H fun c H1 => QB (!c) H1) : tNot tt σ H QB := h
theorem r_isN (h : ta σ H fun x H1 => Q (.bl (decide (x = .non))) H1) : tIsN ta σ H Q := h
theorem r_notN (h : ta σ H fun x H1 => Q (.bl (!decide (x = .non))) H1) : tNotN ta σ H Q := h
/-! values -/
theorem r_var {i : Nat} {v : V} (e : σ[i]? = some (some v)) (h : Q v H) : tVar i σ H Q := ⟨v, e, h⟩
theorem r_c {v : V} (h : Q v H) : tC v σ H Q := h
theorem r_op {r : R2} (h : ta σ H fun x H1 => tb σ H1 fun y H2 => r x y H2 Q) : tOp r ta tb σ H Q := h
theorem r_un {r : V → Hp → VK → Prop} (h : ta σ H fun x H1 => r x H1 Q) : tUn r ta σ H Q := h
theorem r_nil (h : QA [] H) : tNil σ H QA := h
theorem r_cons {tr : TA} (h : ta σ H fun x H1 => tr σ H1 fun xs H2 => QA (x :: xs) H2) : tCons ta tr σ H QA := h
theorem r_andV (h : ta σ H fun x H1 => ∃ c, x = .bl c ∧ if c = true then tb σ H1 Q else Q (.bl false) H1) : tAndV ta tb σ H Q := h
theorem r_orV (h : ta σ H fun x H1 => ∃ c, x = .bl c ∧ if c = true then Q (.bl true) H1 else tb σ H1 Q) : tOrV ta tb σ H Q := h
theorem r_notV (h : ta σ H fun x H1 => ∃ c, x = .bl c ∧ Q (.bl (!c)) H1) : tNotV ta σ H Q := h
theorem r_ifE (h : tt σ H fun c H1 => if c = true then ta σ H1 Q else tb σ H1 Q) : tIf tt ta tb σ H Q := h
theorem r_blP {b : Bool} {P : Bool → Prop} (h : P b) : ∃ c, V.bl b = .bl c ∧ P c := ⟨b, rfl, h⟩
/-! stores to slots -/
theorem r_set {i : Nat} {v : V} {σ' : St} {K : St → Hp → Prop} (e : σ.set i (some v) = σ') (h : K σ' H) : gName i v σ H K := by
  show K (σ.set i (some v)) H
  rw [e]
  exact h
theorem r_v0 {v : V} {t : St} (h : Q v H) : tVar 0 (some v :: t) H Q := ⟨v, rfl, h⟩
theorem r_n0 {y : Option V} {v : V} {t : St} {F : St → Hp → Prop} (h : F (some v :: t) H) : gName 0 v (y :: t) H F := h
theorem r_v1 {x0 : Option V} {v : V} {t : St} (h : Q v H) : tVar 1 (x0 :: some v :: t) H Q := ⟨v, rfl, h⟩
theorem r_n1 {x0 : Option V} {y : Option V} {v : V} {t : St} {F : St → Hp → Prop} (h : F (x0 :: some v :: t) H) : gName 1 v (x0 :: y :: t) H F := h
theorem r_v2 {x0 x1 : Option V} {v : V} {t : St} (h : Q v H) : tVar 2 (x0 :: x1 :: some v :: t) H Q := ⟨v, rfl, h⟩
theorem r_n2 {x0 x1 : Option V} {y : Option V} {v : V} {t : St} {F : St → Hp → Prop} (h : F (x0 :: x1 :: some v :: t) H) : gName 2 v (x0 :: x1 :: y :: t) H F := h
theorem r_v3 {x0 x1 x2 : Option V} {v : V} {t : St} (h : Q v H) : tVar 3 (x0 :: x1 :: x2 :: some v :: t) H Q := ⟨v, rfl, h⟩
theorem r_n3 {x0 x1 x2 : Option V} {y : Option V} {v : V} {t : St} {F : St → Hp → Prop} (h : F (x0 :: x1 :: x2 :: some v :: t) H) : gName 3 v (x0 :: x1 :: x2 :: y :: t) H F := h
theorem r_v4 {x0 x1 x2 x3 : Option V} {v : V} {t : St} (h : Q v H) : tVar 4 (x0 :: x1 :: x2 :: x3 :: some v :: t) H Q := ⟨v, rfl, h⟩
theorem r_n4 {x0 x1 x2 x3 : Option V} {y : Option V} {v : V} {t : St} {F : St → Hp → Prop} (h : F (x0 :: x1 :: x2 :: x3 :: some v :: t) H) : gName 4 v (x0 :: x1 :: x2 :: x3 :: y :: t) H F := h
theorem r_v5 {x0 x1 x2 x3 x4 : Option V} {v : V} {t : St} (h : Q v H) : tVar 5 (x0 :: x1 :: x2 :: x3 :: x4 :: some v :: t) H Q := ⟨v, rfl, h⟩
theorem r_n5 {x0 x1 x2 x3 x4 : Option V} {y : Option V} {v : V} {t : St} {F : St → Hp → Prop} (h : F (x0 :: x1 :: x2 :: x3 :: x4 :: some v :: t) H) : gName 5 v (x0 :: x1 :: x2 :: x3 :: x4 :: y :: t) H F := h
theorem r_v6 {x0 x1 x2 x3 x4 x5 : Option V} {v : V} {t : St} (h : Q v H) : tVar 6 (x0 :: x1 :: x2 :: x3 :: x4 :: x5 :: some v :: t) H Q := ⟨v, rfl, h⟩
theorem r_n6 {x0 x1 x2 x3 x4 x5 : Option V} {y : Option V} {v : V} {t : St} {F : St → Hp → Prop} (h : F (x0 :: x1 :: x2 :: x3 :: x4 :: x5 :: some v :: t) H) : gName 6 v (x0 :: x1 :: x2 :: x3 :: x4 :: x5 :: y :: t) H F := h
theorem r_v7 {x0 x1 x2 x3 x4 x5 x6 : Option V} {v : V} {t : St} (h : Q v H) : tVar 7 (x0 :: x1 :: x2 :: x3 :: x4 :: x5 :: x6 :: some v :: t) H Q := ⟨v, rfl, h⟩
theorem r_n7 {x0 x1 x2 x3 x4 x5 x6 : Option V} {y : Option V} {v : V} {t : St} {F : St → Hp → Prop} (h : F (x0 :: x1 :: x2 :: x3 :: x4 :: x5 :: x6 :: some v :: t) H) : gName 7 v (x0 :: x1 :: x2 :: x3 :: x4 :: x5 :: x6 :: y :: t) H F := h
theorem r_v8 {x0 x1 x2 x3 x4 x5 x6 x7 : Option V} {v : V} {t : St} (h : Q v H) : tVar 8 (x0 :: x1 :: x2 :: x3 :: x4 :: x5 :: x6 :: x7 :: some v :: t) H Q := ⟨v, rfl, h⟩
theorem r_n8 {x0 x1 x2 x3 x4 x5 x6 x7 : Option V} {y : Option V} {v : V} {t : St} {F : St → Hp → Prop} (h : F (x0 :: x1 :: x2 :: x3 :: x4 :: x5 :: x6 :: x7 :: some v :: t) H) : gName 8 v (x0 :: x1 :: x2 :: x3 :: x4 :: x5 :: x6 :: x7 :: y :: t) H F := h
theorem r_v9 {x0 x1 x2 x3 x4 x5 x6 x7 x8 : Option V} {v : V} {t : St} (h : Q v H) : tVar 9 (x0 :: x1 :: x2 :: x3 :: x4 :: x5 :: x6 :: x7 :: x8 :: some v :: t) H Q := ⟨v, rfl, h⟩
theorem r_n9 {x0 x1 x2 x3 x4 x5 x6 x7 x8 : Option V} {y : Option V} {v : V} {t : St} {F : St → Hp → Prop} (h : F (x0 :: x1 :: x2 :: x3 :: x4 :: x5 :: x6 :: x7 :: x8 :: some v :: t) H) : gName 9 v (x0 :: x1 :: x2 :: x3 :: x4 :: x5 :: x6 :: x7 :: x8 :: y :: t) H F := h
theorem r_v10 {x0 x1 x2 x3 x4 x5 x6 x7 x8 x9 : Option V} {v : V} {t : St} (h : Q v H) : tVar 10 (x0 :: x1 :: x2 :: x3 :: x4 :: x5 :: x6 :: x7 :: x8 :: x9 :: some v :: t) H Q := ⟨v, rfl, h⟩
theorem r_n10 {x0 x1 x2 x3 x4 x5 x6 x7 x8 x9 : Option V} {y : Option V} {v : V} {t : St} {F : St → Hp → Prop} (h : F (x0 :: x1 :: x2 :: x3 :: x4 :: x5 :: x6 :: x7 :: x8 :: x9 :: some v :: t) H) : gName 10 v (x0 :: x1 :: x2 :: x3 :: x4 :: x5 :: x6 :: x7 :: x8 :: x9 :: y :: t) H F := h
theorem r_v11 {x0 x1 x2 x3 x4 x5 x6 x7 x8 x9 x10 : Option V} {v : V} {t : St} (h : Q v H) : tVar 11 (x0 :: x1 :: x2 :: x3 :: x4 :: x5 :: x6 :: x7 :: x8 :: x9 :: x10 :: some v :: t) H Q := ⟨v, rfl, h⟩
theorem r_n11 {x0 x1 x2 x3 x4 x5 x6 x7 x8 x9 x10 : Option V} {y : Option V} {v : V} {t : St} {F : St → Hp → Prop} (h : F (x0 :: x1 :: x2 :: x3 :: x4 :: x5 :: x6 :: x7 :: x8 :: x9 :: x10 :: some v :: t) H) : gName 11 v (x0 :: x1 :: x2 :: x3 :: x4 :: x5 :: x6 :: x7 :: x8 :: x9 :: x10 :: y :: t) H F := h
theorem r_v12 {x0 x1 x2 x3 x4 x5 x6 x7 x8 x9 x10 x11 : Option V} {v : V} {t : St} (h : Q v H) : tVar 12 (x0 :: x1 :: x2 :: x3 :: x4 :: x5 :: x6 :: x7 :: x8 :: x9 :: x10 :: x11 :: some v :: t) H Q := ⟨v, rfl, h⟩
theorem r_n12 {x0 x1 x2 x3 x4 x5 x6 x7 x8 x9 x10 x11 : Option V} {y : Option V} {v : V} {t : St} {F : St → Hp → Prop} (h : F (x0 :: x1 :: x2 :: x3 :: x4 :: x5 :: x6 :: x7 :: x8 :: x9 :: x10 :: x11 :: some v :: t) H) : gName 12 v (x0 :: x1 :: x2 :: x3 :: x4 :: x5 :: x6 :: x7 :: x8 :: x9 :: x10 :: x11 :: y :: t) H F := h
theorem r_v13 {x0 x1 x2 x3 x4 x5 x6 x7 x8 x9 x10 x11 x12 : Option V} {v : V} {t : St} (h : Q v H) : tVar 13 (x0 :: x1 :: x2 :: x3 :: x4 :: x5 :: x6 :: x7 :: x8 :: x9 :: x10 :: x11 :: x12 :: some v :: t) H Q := ⟨v, rfl, h⟩
theorem r_n13 {x0 x1 x2 x3 x4 x5 x6 x7 x8 x9 x10 x11 x12 : Option V} {y : Option V} {v : V} {t : St} {F : St → Hp → Prop} (h : F (x0 :: x1 :: x2 :: x3 :: x4 :: x5 :: x6 :: x7 :: x8 :: x9 :: x10 :: x11 :: x12 :: some v :: t) H) : gName 13 v (x0 :: x1 :: x2 :: x3 :: x4 :: x5 :: x6 :: x7 :: x8 :: x9 :: x10 :: x11 :: x12 :: y :: t) H F := h
theorem r_v14 {x0 x1 x2 x3 x4 x5 x6 x7 x8 x9 x10 x11 x12 x13 : Option V} {v : V} {t : St} (h : Q v H) : tVar 14 (x0 :: x1 :: x2 :: x3 :: x4 :: x5 :: x6 :: x7 :: x8 :: x9 :: x10 :: x11 :: x12 :: x13 :: some v :: t) H Q := ⟨v, rfl, h⟩
theorem r_n14 {x0 x1 x2 x3 x4 x5 x6 x7 x8 x9 x10 x11 x12 x13 : Option V} {y : Option V} {v : V} {t : St} {F : St → Hp → Prop} (h : F (x0 :: x1 :: x2 :: x3 :: x4 :: x5 :: x6 :: x7 :: x8 :: x9 :: x10 :: x11 :: x12 :: x13 :: some v :: t) H) : gName 14 v (x0 :: x1 :: x2 :: x3 :: x4 :: x5 :: x6 :: x7 :: x8 :: x9 :: x10 :: x11 :: x12 :: x13 :: y :: t) H F := h
theorem r_v15 {x0 x1 x2 x3 x4 x5 x6 x7 x8 x9 x10 x11 x12 x13 x14 : Option V} {v : V} {t : St} (h : Q v H) : tVar 15 (x0 :: x1 :: x2 :: x3 :: x4 :: x5 :: x6 :: x7 :: x8 :: x9 :: x10 :: x11 :: x12 :: x13 :: x14 :: some v :: t) H Q := ⟨v, rfl, h⟩
theorem r_n15 {x0 x1 x2 x3 x4 x5 x6 x7 x8 x9 x10 x11 x12 x13 x14 : Option V} {y : Option V} {v : V} {t : St} {F : St → Hp → Prop} (h : F (x0 :: x1 :: x2 :: x3 :: x4 :: x5 :: x6 :: x7 :: x8 :: x9 :: x10 :: x11 :: x12 :: x13 :: x14 :: some v :: t) H) : gName 15 v (x0 :: x1 :: x2 :: x3 :: x4 :: x5 :: x6 :: x7 :: x8 :: x9 :: x10 :: x11 :: x12 :: x13 :: x14 :: y :: t) H F := h
theorem r_v16 {x0 x1 x2 x3 x4 x5 x6 x7 x8 x9 x10 x11 x12 x13 x14 x15 : Option V} {v : V} {t : St} (h : Q v H) : tVar 16 (x0 :: x1 :: x2 :: x3 :: x4 :: x5 :: x6 :: x7 :: x8 :: x9 :: x10 :: x11 :: x12 :: x13 :: x14 :: x15 :: some v :: t) H Q := ⟨v, rfl, h⟩
theorem r_n16 {x0 x1 x2 x3 x4 x5 x6 x7 x8 x9 x10 x11 x12 x13 x14 x15 : Option V} {y : Option V} {v : V} {t : St} {F : St → Hp → Prop} (h : F (x0 :: x1 :: x2 :: x3 :: x4 :: x5 :: x6 :: x7 :: x8 :: x9 :: x10 :: x11 :: x12 :: x13 :: x14 :: x15 :: some v :: t) H) : gName 16 v (x0 :: x1 :: x2 :: x3 :: x4 :: x5 :: x6 :: x7 :: x8 :: x9 :: x10 :: x11 :: x12 :: x13 :: x14 :: x15 :: y :: t) H F := h
theorem r_v17 {x0 x1 x2 x3 x4 x5 x6 x7 x8 x9 x10 x11 x12 x13 x14 x15 x16 : Option V} {v : V} {t : St} (h : Q v H) : tVar 17 (x0 :: x1 :: x2 :: x3 :: x4 :: x5 :: x6 :: x7 :: x8 :: x9 :: x10 :: x11 :: x12 :: x13 :: x14 :: x15 :: x16 :: some v :: t) H Q := ⟨v, rfl, h⟩
theorem r_n17 {x0 x1 x2 x3 x4 x5 x6 x7 x8 x9 x10 x11 x12 x13 x14 x15 x16 : Option V} {y : Option V} {v : V} {t : St} {F : St → Hp → Prop} (h : F (x0 :: x1 :: x2 :: x3 :: x4 :: x5 :: x6 :: x7 :: x8 :: x9 :: x10 :: x11 :: x12 :: x13 :: x14 :: x15 :: x16 :: some v :: t) H) : gName 17 v (x0 :: x1 :: x2 :: x3 :: x4 :: x5 :: x6 :: x7 :: x8 :: x9 :: x10 :: x11 :: x12 :: x13 :: x14 :: x15 :: x16 :: y :: t) H F := h
theorem r_v18 {x0 x1 x2 x3 x4 x5 x6 x7 x8 x9 x10 x11 x12 x13 x14 x15 x16 x17 : Option V} {v : V} {t : St} (h : Q v H) : tVar 18 (x0 :: x1 :: x2 :: x3 :: x4 :: x5 :: x6 :: x7 :: x8 :: x9 :: x10 :: x11 :: x12 :: x13 :: x14 :: x15 :: x16 :: x17 :: some v :: t) H Q := ⟨v, rfl, h⟩
theorem r_n18 {x0 x1 x2 x3 x4 x5 x6 x7 x8 x9 x10 x11 x12 x13 x14 x15 x16 x17 : Option V} {y : Option V} {v : V} {t : St} {F : St → Hp → Prop} (h : F (x0 :: x1 :: x2 :: x3 :: x4 :: x5 :: x6 :: x7 :: x8 :: x9 :: x10 :: x11 :: x12 :: x13 :: x14 :: x15 :: x16 :: x17 :: some v :: t) H) : gName 18 v (x0 :: x1 :: x2 :: x3 :: x4 :: x5 :: x6 :: x7 :: x8 :: x9 :: x10 :: x11 :: x12 :: x13 :: x14 :: x15 :: x16 :: x17 :: y :: t) H F := h
theorem r_v19 {x0 x1 x2 x3 x4 x5 x6 x7 x8 x9 x10 x11 x12 x13 x14 x15 x16 x17 x18 : Option V} {v : V} {t : St} (h : Q v H) : tVar 19 (x0 :: x1 :: x2 :: x3 :: x4 :: x5 :: x6 :: x7 :: x8 :: x9 :: x10 :: x11 :: x12 :: x13 :: x14 :: x15 :: x16 :: x17 :: x18 :: some v :: t) H Q := ⟨v, rfl, h⟩
theorem r_n19 {x0 x1 x2 x3 x4 x5 x6 x7 x8 x9 x10 x11 x12 x13 x14 x15 x16 x17 x18 : Option V} {y : Option V} {v : V} {t : St} {F : St → Hp → Prop} (h : F (x0 :: x1 :: x2 :: x3 :: x4 :: x5 :: x6 :: x7 :: x8 :: x9 :: x10 :: x11 :: x12 :: x13 :: x14 :: x15 :: x16 :: x17 :: x18 :: some v :: t) H) : gName 19 v (x0 :: x1 :: x2 :: x3 :: x4 :: x5 :: x6 :: x7 :: x8 :: x9 :: x10 :: x11 :: x12 :: x13 :: x14 :: x15 :: x16 :: x17 :: x18 :: y :: t) H F := h
/-! operators -/
theorem r_add {i j : Int} (h : Q (.int (i + j)) H) : rAdd3 (.int i) (.int j) H Q := .inl ⟨i, j, rfl, rfl, h⟩
theorem r_addS {a b : List Nat} (hl : a.length + b.length ≤ sizeLine) (h : Q (.str (S (a ++ b))) H) : rAdd3 (.str (S a)) (.str (S b)) H Q :=
  .inr (.inl ⟨_, _, rfl, rfl, by rw [S_len, S_len]; exact hl, by rw [S_app]; exact h⟩)
theorem r_sub {i j : Int} (h : Q (.int (i - j)) H) : rSub (.int i) (.int j) H Q := ⟨i, j, rfl, rfl, h⟩
theorem r_mulL {i j : Int} (h1 : -(2 ^ 64) < i ∧ i < 2 ^ 64) (h : Q (.int (i * j)) H) : rMul (.int i) (.int j) H Q := ⟨i, j, rfl, rfl, .inl h1, h⟩
theorem r_mulR {i j : Int} (h1 : -(2 ^ 64) < j ∧ j < 2 ^ 64) (h : Q (.int (i * j)) H) : rMul (.int i) (.int j) H Q := ⟨i, j, rfl, rfl, .inr h1, h⟩
theorem r_div {i j : Int} (h1 : 0 < j ∧ j < 1073741824) (h : Q (.int (i / j)) H) : rDiv (.int i) (.int j) H Q := ⟨i, j, rfl, rfl, h1, h⟩
theorem r_mod {i j : Int} (h1 : 0 < j) (h : Q (.int (i % j)) H) : rMod (.int i) (.int j) H Q := ⟨i, j, rfl, rfl, h1, h⟩
theorem r_pow {i j : Int} (h1 : 0 ≤ j ∧ j ≤ 1000000 ∧ i.natAbs < 2 ^ 64) (h : Q (.int (i ^ j.toNat)) H) : rPow (.int i) (.int j) H Q := ⟨i, j, rfl, rfl, h1, h⟩
theorem r_neg {i : Int} (h : Q (.int (-i)) H) : rNeg (.int i) H Q := ⟨i, rfl, h⟩
theorem r_lt {i j : Int} (h : Q (.bl (decide (i < j))) H) : rLt (.int i) (.int j) H Q := ⟨i, j, rfl, rfl, h⟩
theorem r_le {i j : Int} (h : Q (.bl (decide (i ≤ j))) H) : rLe (.int i) (.int j) H Q := ⟨i, j, rfl, rfl, h⟩
theorem r_gt {i j : Int} (h : Q (.bl (decide (j < i))) H) : rGt (.int i) (.int j) H Q := ⟨i, j, rfl, rfl, h⟩
theorem r_ge {i j : Int} (h : Q (.bl (decide (j ≤ i))) H) : rGe (.int i) (.int j) H Q := ⟨i, j, rfl, rfl, h⟩
variable {K : PySem.W.Frag}
theorem dec_int (i j : Int) : decide (V.int i = V.int j) = decide (i = j) := by
  by_cases e : i = j
  · rw [decide_eq_true e, decide_eq_true (congrArg V.int e)]
  · rw [decide_eq_false e, decide_eq_false fun q => e (V.int.inj q)]
theorem dec_str (a b : List Nat) : decide (V.str (S a) = V.str (S b)) = decide (a = b) := by
  by_cases e : a = b
  · rw [decide_eq_true e, decide_eq_true (by rw [e])]
  · rw [decide_eq_false e, decide_eq_false fun q => e (S_inj (V.str.inj q))]
theorem r_eqI {i j : Int} (h : Q (.bl (decide (i = j))) H) : rEqG K (.int i) (.int j) H Q := .inl ⟨rfl, by rw [dec_int]; exact h⟩
theorem r_eqS {a b : List Nat} (h : Q (.bl (decide (a = b))) H) : rEqG K (.str (S a)) (.str (S b)) H Q := .inl ⟨rfl, by rw [dec_str]; exact h⟩
theorem r_neI {i j : Int} (h : Q (.bl (!decide (i = j))) H) : rNeG K (.int i) (.int j) H Q := .inl ⟨rfl, by rw [dec_int]; exact h⟩
theorem r_neS {a b : List Nat} (h : Q (.bl (!decide (a = b))) H) : rNeG K (.str (S a)) (.str (S b)) H Q := .inl ⟨rfl, by rw [dec_str]; exact h⟩
theorem r_eqV {x y : V} (hs : scal x y = true) (h : Q (.bl (decide (x = y))) H) : rEqG K x y H Q := .inl ⟨hs, h⟩
theorem r_neV {x y : V} (hs : scal x y = true) (h : Q (.bl (!decide (x = y))) H) : rNeG K x y H Q := .inl ⟨hs, h⟩
theorem r_eqD {x y : V} (d e : PyData) (h1 : Dp K H x d) (h2 : Dp K H y e) (s1 : SeqAt.shaped d = true) (s2 : SeqAt.shaped e = true) (h : Q (.bl (PyData.eqv d e)) H) : rEqG K x y H Q := .inr (.inl ⟨d, e, h1, h2, s1, s2, h⟩)
theorem r_neD {x y : V} (d e : PyData) (h1 : Dp K H x d) (h2 : Dp K H y e) (s1 : SeqAt.shaped d = true) (s2 : SeqAt.shaped e = true) (h : Q (.bl (!PyData.eqv d e)) H) : rNeG K x y H Q := .inr (.inl ⟨d, e, h1, h2, s1, s2, h⟩)
/-! slices, items -/
theorem r_sl {r : V → Option Int → Option Int → Hp → VK → Prop} {tl th : TO} (h : te σ H fun x H1 => tl σ H1 fun l H2 => th σ H2 fun v H3 => r x l v H3 Q) : tSl r te tl th σ H Q := h
theorem r_noPart {QO : Option Int → Hp → Prop} (h : QO none H) : tNoPart σ H QO := h
theorem r_part {QO : Option Int → Hp → Prop} (h : te σ H fun x H1 => ∃ i, x = .int i ∧ QO (some i) H1) : tPart te σ H QO := h
theorem r_int {i : Int} {P : Int → Prop} (h : P i) : ∃ k, V.int i = .int k ∧ P k := ⟨i, rfl, h⟩
theorem r_slS {a : List Nat} {lo hi : Option Int} (hl : a.length ≤ sizeLine) (h : Q (.str (S (cutL a lo hi))) H) : rSl2 K (.str (S a)) lo hi H Q :=
  .inr ⟨_, rfl, by rw [S_len]; exact hl, by rw [S_cut]; exact h⟩
theorem r_ixL {p : Addr} {xs : List V} {i : Int} {v : V} (hs : SqL K H p xs) (ha : atI xs i = some v) (h : Q v H) : rIx K (.ref p) (.int i) H Q := .inl ⟨p, xs, i, v, rfl, rfl, hs, ha, h⟩
theorem r_ixT {p : Addr} {xs : List V} {i : Int} {v : V} (hs : SqT K H p xs) (ha : atI xs i = some v) (h : Q v H) : rIx K (.ref p) (.int i) H Q := .inr (.inl ⟨p, xs, i, v, rfl, rfl, hs, ha, h⟩)
theorem r_ixS {a : List Nat} {i : Int} {c : Nat} (hl : a.length ≤ sizeLine) (ha : atI a i = some c) (h : Q (.str (S [c])) H) : rIx K (.str (S a)) (.int i) H Q :=
  .inr (.inr ⟨_, i, c, rfl, rfl, by rw [S_len]; exact hl, by simpa using ha, h⟩)
/-! new objects: the heap behind is told by what it bears -/
def Nw (H : Hp) (o : HO) (Q : VK) : Prop := ∀ p H2, H p = none → Same H H2 → H2 p = some o → Q (.ref p) H2
theorem same_new {H : Hp} {p : Addr} {o : HO} (h : H p = none) : Same H (upd H p o) := fun b u e => by
  rw [upd_ne (ne_of_none e h)]
  exact e
theorem Nw.go {o : HO} (h : Nw H o Q) : ∀ p, H p = none → Q (.ref p) (upd H p o) := fun p hp => h p _ hp (same_new hp) upd_same
def MkT (H : Hp) (xs : List V) (Q : VK) : Prop := xs.length ≤ sizeLine ∧ ∀ p, H p = none → Q (.ref p) (upd H p (.tup xs))
def MkL (H : Hp) (xs : List V) (Q : VK) : Prop := xs.length ≤ sizeLine ∧ ∀ p, H p = none → Q (.ref p) (upd H p (.lst xs))
theorem r_tup {t : TA} (h : t σ H fun xs H1 => MkT H1 xs Q) : tTup t σ H Q := h
theorem r_lst {t : TA} (h : t σ H fun xs H1 => MkL H1 xs Q) : tLst t σ H Q := h
theorem r_mkT {xs : List V} (hl : xs.length ≤ sizeLine) (h : Nw H (.tup xs) Q) : MkT H xs Q := ⟨hl, h.go⟩
theorem r_mkL {xs : List V} (hl : xs.length ≤ sizeLine) (h : Nw H (.lst xs) Q) : MkL H xs Q := ⟨hl, h.go⟩
theorem r_dnew (h : Nw H (.dK []) Q) : tDNewK σ H Q := h.go
theorem sz {n : Nat} (h : n ≤ 16777216) : n ≤ sizeLine := by rw [sizeLine_eq]; exact h
theorem szl {n : Nat} (h : n < 16777216) : n < sizeLine := by rw [sizeLine_eq]; exact h
/-! calls -/
theorem r_call {sp : Sp} {E : XK} {t : TA} (h : t σ H fun vs H1 => sp vs H1 Q E) : tCall sp [] E t σ H Q := by
  unfold tCall
  simpa using h
theorem r_cb {r : List V → Hp → VK → Prop} {t : TA} (h : t σ H fun vs H1 => r vs H1 Q) : tCB r t σ H Q := h
theorem r_lenL {p : Addr} {xs : List V} (hs : SqL K H p xs) (h : Q (.int xs.length) H) : rLenG K [.ref p] H Q := .inl ⟨p, xs, rfl, .inl hs, h⟩
theorem r_lenT {p : Addr} {xs : List V} (hs : SqT K H p xs) (h : Q (.int xs.length) H) : rLenG K [.ref p] H Q := .inl ⟨p, xs, rfl, .inr hs, h⟩
theorem r_lenS {a : List Nat} (hl : a.length ≤ sizeLine) (h : Q (.int a.length) H) : rLenG K [.str (S a)] H Q := .inr (.inl ⟨_, rfl, by rw [S_len]; exact hl, by rw [S_len]; exact h⟩)
theorem r_lenD {p : Addr} {kvs : List (Key × V)} (hs : H p = some (.dK kvs)) (h : Q (.int kvs.length) H) : rLenG K [.ref p] H Q := .inr (.inr ⟨p, kvs, rfl, hs, h⟩)
theorem r_listL {p : Addr} {xs : List V} (hs : SqL K H p xs) (h : Nw H (.lst xs) Q) : rListG K [.ref p] H Q := .inl ⟨p, xs, rfl, .inl hs, h.go⟩
theorem r_listD {p : Addr} {kvs : List (Key × V)} (hs : Rd H p (.dK kvs)) (h : Nw H (.lst (kvs.map fun kv => kV kv.1)) Q) : rListG K [.ref p] H Q := .inr ⟨p, kvs, rfl, hs, h.go⟩
theorem r_dictD {p : Addr} {kvs : List (Key × V)} (hs : Rd H p (.dK kvs)) (h : Nw H (.dK kvs) Q) : rDictD [.ref p] H Q := ⟨p, kvs, rfl, hs, h.go⟩
theorem r_isi {x : V} {t c : String} {b : Bool} (ty : TyX K H x (.type t)) (hb : kitB t c = some b) (h : Q (.bl b) H) : rIsi K [x, .ty c] H Q := ⟨x, _, _, _, b, rfl, .ty c, ty, kit_ty hb, h⟩
theorem r_is_int_int {i : Int} (h : Q (.bl true) H) : rIsi K [.int i, .ty "int"] H Q := r_isi (.base (.int _)) (t := "int") (by decide +kernel) h
theorem r_is_int_bool {i : Int} (h : Q (.bl false) H) : rIsi K [.int i, .ty "bool"] H Q := r_isi (.base (.int _)) (t := "int") (by decide +kernel) h
theorem r_is_int_str {i : Int} (h : Q (.bl false) H) : rIsi K [.int i, .ty "str"] H Q := r_isi (.base (.int _)) (t := "int") (by decide +kernel) h
theorem r_is_int_tuple {i : Int} (h : Q (.bl false) H) : rIsi K [.int i, .ty "tuple"] H Q := r_isi (.base (.int _)) (t := "int") (by decide +kernel) h
theorem r_is_int_list {i : Int} (h : Q (.bl false) H) : rIsi K [.int i, .ty "list"] H Q := r_isi (.base (.int _)) (t := "int") (by decide +kernel) h
theorem r_is_int_dict {i : Int} (h : Q (.bl false) H) : rIsi K [.int i, .ty "dict"] H Q := r_isi (.base (.int _)) (t := "int") (by decide +kernel) h
theorem r_is_str_int {z : Str} (h : Q (.bl false) H) : rIsi K [.str z, .ty "int"] H Q := r_isi (.base (.str _)) (t := "str") (by decide +kernel) h
theorem r_is_str_bool {z : Str} (h : Q (.bl false) H) : rIsi K [.str z, .ty "bool"] H Q := r_isi (.base (.str _)) (t := "str") (by decide +kernel) h
theorem r_is_str_str {z : Str} (h : Q (.bl true) H) : rIsi K [.str z, .ty "str"] H Q := r_isi (.base (.str _)) (t := "str") (by decide +kernel) h
theorem r_is_str_tuple {z : Str} (h : Q (.bl false) H) : rIsi K [.str z, .ty "tuple"] H Q := r_isi (.base (.str _)) (t := "str") (by decide +kernel) h
theorem r_is_str_list {z : Str} (h : Q (.bl false) H) : rIsi K [.str z, .ty "list"] H Q := r_isi (.base (.str _)) (t := "str") (by decide +kernel) h
theorem r_is_str_dict {z : Str} (h : Q (.bl false) H) : rIsi K [.str z, .ty "dict"] H Q := r_isi (.base (.str _)) (t := "str") (by decide +kernel) h
theorem r_is_bl_int {b : Bool} (h : Q (.bl true) H) : rIsi K [.bl b, .ty "int"] H Q := r_isi (.base (.bl _)) (t := "bool") (by decide +kernel) h
theorem r_is_bl_bool {b : Bool} (h : Q (.bl true) H) : rIsi K [.bl b, .ty "bool"] H Q := r_isi (.base (.bl _)) (t := "bool") (by decide +kernel) h
theorem r_is_bl_str {b : Bool} (h : Q (.bl false) H) : rIsi K [.bl b, .ty "str"] H Q := r_isi (.base (.bl _)) (t := "bool") (by decide +kernel) h
theorem r_is_bl_tuple {b : Bool} (h : Q (.bl false) H) : rIsi K [.bl b, .ty "tuple"] H Q := r_isi (.base (.bl _)) (t := "bool") (by decide +kernel) h
theorem r_is_bl_list {b : Bool} (h : Q (.bl false) H) : rIsi K [.bl b, .ty "list"] H Q := r_isi (.base (.bl _)) (t := "bool") (by decide +kernel) h
theorem r_is_bl_dict {b : Bool} (h : Q (.bl false) H) : rIsi K [.bl b, .ty "dict"] H Q := r_isi (.base (.bl _)) (t := "bool") (by decide +kernel) h
theorem r_is_non_int  (h : Q (.bl false) H) : rIsi K [.non, .ty "int"] H Q := r_isi (.base .non) (t := "NoneType") (by decide +kernel) h
theorem r_is_non_bool  (h : Q (.bl false) H) : rIsi K [.non, .ty "bool"] H Q := r_isi (.base .non) (t := "NoneType") (by decide +kernel) h
theorem r_is_non_str  (h : Q (.bl false) H) : rIsi K [.non, .ty "str"] H Q := r_isi (.base .non) (t := "NoneType") (by decide +kernel) h
theorem r_is_non_tuple  (h : Q (.bl false) H) : rIsi K [.non, .ty "tuple"] H Q := r_isi (.base .non) (t := "NoneType") (by decide +kernel) h
theorem r_is_non_list  (h : Q (.bl false) H) : rIsi K [.non, .ty "list"] H Q := r_isi (.base .non) (t := "NoneType") (by decide +kernel) h
theorem r_is_non_dict  (h : Q (.bl false) H) : rIsi K [.non, .ty "dict"] H Q := r_isi (.base .non) (t := "NoneType") (by decide +kernel) h
theorem r_is_lst_int {a : Addr} {xs : List V} (e : H a = some (.lst xs)) (h : Q (.bl false) H) : rIsi K [.ref a, .ty "int"] H Q := r_isi (.base (.lst e)) (t := "list") (by decide +kernel) h
theorem r_is_lst_str {a : Addr} {xs : List V} (e : H a = some (.lst xs)) (h : Q (.bl false) H) : rIsi K [.ref a, .ty "str"] H Q := r_isi (.base (.lst e)) (t := "list") (by decide +kernel) h
theorem r_is_lst_tuple {a : Addr} {xs : List V} (e : H a = some (.lst xs)) (h : Q (.bl false) H) : rIsi K [.ref a, .ty "tuple"] H Q := r_isi (.base (.lst e)) (t := "list") (by decide +kernel) h
theorem r_is_lst_list {a : Addr} {xs : List V} (e : H a = some (.lst xs)) (h : Q (.bl true) H) : rIsi K [.ref a, .ty "list"] H Q := r_isi (.base (.lst e)) (t := "list") (by decide +kernel) h
theorem r_is_lst_dict {a : Addr} {xs : List V} (e : H a = some (.lst xs)) (h : Q (.bl false) H) : rIsi K [.ref a, .ty "dict"] H Q := r_isi (.base (.lst e)) (t := "list") (by decide +kernel) h
theorem r_is_tup_int {a : Addr} {xs : List V} (e : H a = some (.tup xs)) (h : Q (.bl false) H) : rIsi K [.ref a, .ty "int"] H Q := r_isi (.base (.tup e)) (t := "tuple") (by decide +kernel) h
theorem r_is_tup_str {a : Addr} {xs : List V} (e : H a = some (.tup xs)) (h : Q (.bl false) H) : rIsi K [.ref a, .ty "str"] H Q := r_isi (.base (.tup e)) (t := "tuple") (by decide +kernel) h
theorem r_is_tup_tuple {a : Addr} {xs : List V} (e : H a = some (.tup xs)) (h : Q (.bl true) H) : rIsi K [.ref a, .ty "tuple"] H Q := r_isi (.base (.tup e)) (t := "tuple") (by decide +kernel) h
theorem r_is_tup_list {a : Addr} {xs : List V} (e : H a = some (.tup xs)) (h : Q (.bl false) H) : rIsi K [.ref a, .ty "list"] H Q := r_isi (.base (.tup e)) (t := "tuple") (by decide +kernel) h
theorem r_is_tup_dict {a : Addr} {xs : List V} (e : H a = some (.tup xs)) (h : Q (.bl false) H) : rIsi K [.ref a, .ty "dict"] H Q := r_isi (.base (.tup e)) (t := "tuple") (by decide +kernel) h
theorem r_is_dK_int {a : Addr} {kvs : List (Key × V)} (e : H a = some (.dK kvs)) (h : Q (.bl false) H) : rIsi K [.ref a, .ty "int"] H Q := r_isi (.base (.dK e)) (t := "dict") (by decide +kernel) h
theorem r_is_dK_str {a : Addr} {kvs : List (Key × V)} (e : H a = some (.dK kvs)) (h : Q (.bl false) H) : rIsi K [.ref a, .ty "str"] H Q := r_isi (.base (.dK e)) (t := "dict") (by decide +kernel) h
theorem r_is_dK_tuple {a : Addr} {kvs : List (Key × V)} (e : H a = some (.dK kvs)) (h : Q (.bl false) H) : rIsi K [.ref a, .ty "tuple"] H Q := r_isi (.base (.dK e)) (t := "dict") (by decide +kernel) h
theorem r_is_dK_list {a : Addr} {kvs : List (Key × V)} (e : H a = some (.dK kvs)) (h : Q (.bl false) H) : rIsi K [.ref a, .ty "list"] H Q := r_isi (.base (.dK e)) (t := "dict") (by decide +kernel) h
theorem r_is_dK_dict {a : Addr} {kvs : List (Key × V)} (e : H a = some (.dK kvs)) (h : Q (.bl true) H) : rIsi K [.ref a, .ty "dict"] H Q := r_isi (.base (.dK e)) (t := "dict") (by decide +kernel) h
theorem r_max2 {i j : Int} (h : Q (.int (max i j)) H) : rMax2 [.int i, .int j] H Q := ⟨i, j, rfl, by
  have e : (if j > i then j else i) = max i j := by
    by_cases q : j > i
    · rw [if_pos q]; omega
    · rw [if_neg q]; omega
  rw [e]; exact h⟩
theorem r_min2 {i j : Int} (h : Q (.int (min i j)) H) : rMin2 [.int i, .int j] H Q := ⟨i, j, rfl, by
  have e : (if j < i then j else i) = min i j := by
    by_cases q : j < i
    · rw [if_pos q]; omega
    · rw [if_neg q]; omega
  rw [e]; exact h⟩
theorem r_bm {T : String} {r : V → List V → Hp → VK → Prop} {t : TA} (h : te σ H fun x H1 => tyV K T x H1 ∧ t σ H1 fun xs H2 => r x xs H2 Q) : tBM K T r te t σ H Q := h
theorem r_bm0 {T : String} {r : V → List V → Hp → VK → Prop} (h : te σ H fun x H1 => tyV K T x H1 ∧ r x [] H1 Q) : tBM0 K T r te σ H Q := h
theorem r_tyL {p : Addr} {xs : List V} {P : Prop} (hs : SqL K H p xs) (h : P) : tyV K "list" (.ref p) H ∧ P := ⟨.inl ⟨rfl, xs, hs⟩, h⟩
theorem r_tyS {z : Str} {P : Prop} (h : P) : tyV K "str" (.str z) H ∧ P := ⟨rfl, h⟩
/-- what a store changes: p alone -/
def Chg (p : Addr) (o : HO) (H H' : Hp) : Prop := H' p = some o ∧ ∀ b u, b ≠ p → H b = some u → H' b = some u
theorem chg_upd {p : Addr} {o : HO} : Chg p o H (upd H p o) := ⟨upd_same, fun b u n e => by rw [upd_ne n]; exact e⟩
theorem r_append {p : Addr} {xs : List V} {y : V} (hs : H p = some (.lst xs)) (hl : xs.length < sizeLine) (h : ∀ H', Chg p (.lst (xs ++ [y])) H H' → Q .non H') : rAppend (.ref p) [y] H Q :=
  ⟨p, xs, y, rfl, rfl, hs, hl, h _ chg_upd⟩
/-! dicts -/
theorem r_dget {td ty : TE} (h : td σ H fun x H1 => ty σ H1 fun y H2 => ∃ a v, x = .ref a ∧ DGet H2 a y (some v) ∧ Q v H2) : tDGet td ty σ H Q := h
theorem r_dgetE {p : Addr} {kvs : List (Key × V)} {n : Int} {v : V} (hs : Rd H p (.dK kvs)) {P : V → Prop} (e : valV kvs (.inl n) = some v) (h : P v) : ∃ a v, V.ref p = .ref a ∧ DGet H a (.int n) (some v) ∧ P v :=
  ⟨p, v, rfl, .inl ⟨kvs, .inl n, hs, rfl, e.symm⟩, h⟩
theorem r_din {td ty : TE} (h : ty σ H fun y H1 => td σ H1 fun x H2 => ∃ a o, x = .ref a ∧ DGet H2 a y o ∧ Q (.bl o.isSome) H2) : tDIn ty td σ H Q := h
theorem r_dnotin {td ty : TE} (h : ty σ H fun y H1 => td σ H1 fun x H2 => ∃ a o, x = .ref a ∧ DGet H2 a y o ∧ Q (.bl (!o.isSome)) H2) : tDNotIn ty td σ H Q := h
theorem r_dinE {p : Addr} {kvs : List (Key × V)} {n : Int} {P : Option V → Prop} (hs : Rd H p (.dK kvs)) (h : P (valV kvs (.inl n))) : ∃ a o, V.ref p = .ref a ∧ DGet H a (.int n) o ∧ P o :=
  ⟨p, _, rfl, .inl ⟨kvs, .inl n, hs, rfl, rfl⟩, h⟩
theorem r_dput {td ty tv : TE} (h : tv σ H fun v H1 => td σ H1 fun x H2 => ty σ H2 fun y H3 => ∃ a H4, x = .ref a ∧ DPut H3 a y v H4 ∧ nx σ H4) : sDPut td ty tv ⟨nx, rt, bk, ct⟩ σ H := h
theorem r_dputE {p : Addr} {kvs : List (Key × V)} {n : Int} {v : V} {P : Hp → Prop} (hs : H p = some (.dK kvs)) (hl : kvs.length < sizeLine) (h : ∀ H', Chg p (.dK (putK kvs (.inl n) v)) H H' → P H') :
    ∃ a H4, V.ref p = .ref a ∧ DPut H a (.int n) v H4 ∧ P H4 := ⟨p, _, rfl, DPut.k (k := .inl n) hs hl, h _ chg_upd⟩
/-! fields, methods -/
theorem r_fld {f : Str} (h : ta σ H fun x H1 => ∃ a C dx fs v, x = .ref a ∧ H1 a = some (.ins C dx fs) ∧ Cls K C ∧ NoAttr K C f ∧ fs.lookup f = some v ∧ Q v H1) : tFld K ta f σ H Q := h
theorem r_meth {C : Addr} {m : Str} {sp : Sp} {E : XK} {t : TA} (h : ta σ H fun x H1 => ∃ a dx fs, x = .ref a ∧ H1 a = some (.ins C dx fs) ∧ fs.lookup m = none ∧ t σ H1 fun vs H2 => sp (x :: vs) H2 Q E) : tMeth C m sp [] E ta t σ H Q := by
  unfold tMeth
  simpa using h
/-! locks, loops, comprehensions -/
theorem same_trans {H1 H2 H3 : Hp} (a : Same H1 H2) (b : Same H2 H3) : Same H1 H3 := a.trans b
/-- a loop, a comprehension over what J walks -/
def ForG (J : It) (g : TG) (tb : TS) (nx : St → Hp → Prop) (rt : VK) (σ : St) (H : Hp) : Prop := ∃ W : Nat → Nat → St → Hp → Prop, (∃ m, W 0 m σ H) ∧ ∀ i m σ H, W i m σ H → (J.stop i H ∧ nx σ H) ∨ (J.go i H ∧ ∃ N : St → Hp → Prop, (∀ σ' H', N σ' H' → ∃ m', m' < m ∧ W (i + 1) m' σ' H') ∧
    ∀ x H', J.yld i H x H' → g x σ H' fun σ2 H2 => tb ⟨N, rt, nx, N⟩ σ2 H2)
def LcG (J : It) (k : Nat) (tt : TT) (te : TE) (σ : St) (Q : VK) (H1 : Hp) : Prop := ∀ D, H1 D = none → ∃ W : Nat → Nat → Hp → Prop, (∃ m, W 0 m (upd H1 D (.lst []))) ∧ ∀ i m H, W i m H →
  (J.stop i H ∧ Q (.ref D) H) ∨ (J.go i H ∧ ∃ Nx : Hp → Prop, (∀ H', Nx H' → ∃ m', m' < m ∧ W (i + 1) m' H') ∧ ∀ x H', J.yld i H x H' → gName k x (wipe σ [k]) H' fun σ2 H2 => wipe σ2 [k] = wipe σ [k] ∧ tt σ2 H2 fun b H3 =>
    if b = true then te σ2 H3 fun y H4 => ∃ acc, H4 D = some (.lst acc) ∧ acc.length < sizeLine ∧ Nx (upd H4 D (.lst (acc ++ [y]))) else Nx H3)
theorem r_for {wi : TI} {tb : TS} (h : wi σ H fun J H1 => ForG J g tb nx rt σ H1) : tFor wi g tb ⟨nx, rt, bk, ct⟩ σ H := h
theorem r_rng1 {t : TA} {R : It → Hp → Prop} (h : t σ H fun vs H1 => ∃ j : Int, vs = [.int j] ∧ -(2 ^ 62) ≤ j ∧ j < 2 ^ 62 ∧ R (Itr 0 j.toNat) H1) : iRng1 t σ H R := h
theorem r_rng1E {j : Int} {P : Int → Prop} (h1 : -(2 ^ 62) ≤ j ∧ j < 2 ^ 62) (h : P j) : ∃ j' : Int, [V.int j] = [.int j'] ∧ -(2 ^ 62) ≤ j' ∧ j' < 2 ^ 62 ∧ P j' := ⟨j, rfl, h1.1, h1.2, h⟩
theorem r_rng2 {t : TA} {R : It → Hp → Prop} (h : t σ H fun vs H1 => ∃ i j : Int, vs = [.int i, .int j] ∧ (-(2 ^ 62) ≤ i ∧ i < 2 ^ 62 ∧ -(2 ^ 62) ≤ j ∧ j < 2 ^ 62) ∧ R (Itr i (j - i).toNat) H1) : iRng2 t σ H R := h
theorem r_rng2E {i j : Int} {P : Int → Int → Prop} (h1 : -(2 ^ 62) ≤ i ∧ i < 2 ^ 62 ∧ -(2 ^ 62) ≤ j ∧ j < 2 ^ 62) (h : P i j) : ∃ i2 j2 : Int, [V.int i, V.int j] = [.int i2, .int j2] ∧ (-(2 ^ 62) ≤ i2 ∧ i2 < 2 ^ 62 ∧ -(2 ^ 62) ≤ j2 ∧ j2 < 2 ^ 62) ∧ P i2 j2 := ⟨i, j, rfl, h1, h⟩
theorem r_iList {R : It → Hp → Prop} (h : te σ H fun x H1 => ∃ a, x = .ref a ∧ (∃ xs, SqL K H1 a xs) ∧ R (Itl K a) H1) : iList K te σ H R := h
theorem r_iListE {a : Addr} {xs : List V} {P : Addr → Prop} (hs : SqL K H a xs) (h : P a) : ∃ a2, V.ref a = .ref a2 ∧ (∃ xs, SqL K H a2 xs) ∧ P a2 := ⟨a, rfl, ⟨xs, hs⟩, h⟩
theorem r_iKeys {R : It → Hp → Prop} (h : te σ H fun x H1 => ∃ d o, x = .ref d ∧ ((∃ kvs, H1 d = some (.frz o (.dK kvs)) ∧ R (Itk d o kvs) H1) ∨ ∃ kvs, H1 d = some (.frz o (.dT kvs)) ∧ R (Itkt d o kvs) H1)) : iKeys te σ H R := h
theorem r_iKeysE {d : Addr} {o : Obj} {kvs : List (Key × V)} {R : It → Hp → Prop} (hs : H d = some (.frz o (.dK kvs))) (h : R (Itk d o kvs) H) :
    ∃ d2 o2, V.ref d = .ref d2 ∧ ((∃ kvs, H d2 = some (.frz o2 (.dK kvs)) ∧ R (Itk d2 o2 kvs) H) ∨ ∃ kvs, H d2 = some (.frz o2 (.dT kvs)) ∧ R (Itkt d2 o2 kvs) H) := ⟨d, o, rfl, .inl ⟨kvs, hs, h⟩⟩
theorem r_rev {p : Addr} {xs : List V} (hs : H p = some (.lst xs)) (h : ∀ H', Chg p (.lst xs.reverse) H H' → Q .non H') : rReverse (.ref p) [] H Q := ⟨p, xs, rfl, rfl, hs, h _ chg_upd⟩
theorem r_lc {wi : TI} {k : Nat} (h : wi σ H fun J H1 => LcG J k tt te σ Q H1) : tLc wi (gName k) tt te [k] σ H Q := h
end

/-! ### loops and comprehensions by what is walked -/
section
variable {nx : St → Hp → Prop} {rt : VK} {bk ct : St → Hp → Prop} {σ : St} {H : Hp} {te : TE} {g : TG} {tt : TT} {Q : VK} {J : It} {n : Nat} {G : Hp → Prop} {Y : Nat → Hp → V → Hp → Prop} {tb : TS}
theorem for_go (w : Walk J n G Y) (Pv : Nat → St → Hp → Prop) (h0 : Pv 0 σ H) (hG : ∀ i σ H, i ≤ n → Pv i σ H → G H)
    (hs : ∀ i x σ H H', i < n → Pv i σ H → Y i H x H' → g x σ H' fun σ2 H2 => tb ⟨Pv (i + 1), rt, nx, Pv (i + 1)⟩ σ2 H2) (hd : ∀ σ H, Pv n σ H → nx σ H) :
    ForG J g tb nx rt σ H := for_it w (D := ⟨nx, rt, fun _ _ => False, fun _ _ => False⟩) Pv h0 hG hs hd
theorem walk_rng {lo : Int} {n : Nat} : Walk (Itr lo n) n (fun _ => True) (fun i H x H' => H' = H ∧ x = .int (lo + i)) := walk_range.mono (fun _ h => h) fun i H x H' _ _ y => y
theorem walk_rng0 {n : Nat} : Walk (Itr 0 n) n (fun _ => True) (fun i H x H' => H' = H ∧ x = .int i) := walk_range.mono (fun _ h => h) fun i H x H' _ _ y => ⟨y.1, by rw [y.2]; show V.int (0 + (i : Int)) = V.int i; rw [Int.zero_add]⟩
theorem r_yes {QB : Bool → Hp → Prop} (h : QB true H) : tYes σ H QB := h
/-- what holds of a comprehension's list so far -/
def LcI (Pv : Addr → Nat → List V → Hp → Prop) (D : Addr) (i : Nat) (H : Hp) : Prop := ∃ acc, acc.length ≤ i ∧ H D = some (.lst acc) ∧ Pv D i acc H
theorem lc_go (w : Walk J n G Y) (hn : n ≤ 1000000) {k : Nat} (Pv : Addr → Nat → List V → Hp → Prop) (h0 : ∀ D H2, H D = none → Same H H2 → H2 D = some (.lst []) → Pv D 0 [] H2)
    (hG : ∀ D i acc H, i ≤ n → Pv D i acc H → G H)
    (hs : ∀ D i x acc H H', i < n → acc.length ≤ i → H D = some (.lst acc) → Pv D i acc H → Y i H x H' → gName k x σ H' fun σ2 H2 => tt σ2 H2 fun b H3 =>
      if b = true then te σ2 H3 fun y H4 => ∃ acc, H4 D = some (.lst acc) ∧ acc.length < sizeLine ∧ LcI Pv D (i + 1) (upd H4 D (.lst (acc ++ [y]))) else LcI Pv D (i + 1) H3)
    (hd : ∀ D acc H, Pv D n acc H → H D = some (.lst acc) → Q (.ref D) H) :
    LcG J k tt te σ Q H := by
  intro D hD
  refine lc_it w (Qd := fun H => Q (.ref D) H) (fun i H => LcI Pv D i H) ⟨[], Nat.le_refl _, upd_same, h0 D _ hD (same_new hD) upd_same⟩ (fun i H hi ⟨acc, _, _, p⟩ => hG D i acc H hi p) ?_ (fun H ⟨acc, _, e, p⟩ => hd D acc H p e)
  rintro i x H1 H' hi ⟨acc, ha, e, p⟩ y
  have e1 : (wipe σ [k]).set k (some x) = σ.set k (some x) := by
    show (σ.set k none).set k (some x) = σ.set k (some x)
    rw [List.set_set]
  have e2 : wipe (σ.set k (some x)) [k] = wipe σ [k] := by
    show (σ.set k (some x)).set k none = σ.set k none
    rw [List.set_set]
  show wipe ((wipe σ [k]).set k (some x)) [k] = wipe σ [k] ∧ tt ((wipe σ [k]).set k (some x)) H' _
  rw [e1]
  exact ⟨e2, hs D i x acc H1 H' hi ha e p y⟩
theorem lc_end {Pv : Addr → Nat → List V → Hp → Prop} {D : Addr} {i : Nat} {acc : List V} {y : V} (ha : acc.length ≤ i) (hi : i < 1000000) (e : H D = some (.lst acc))
    (h : ∀ H5, Chg D (.lst (acc ++ [y])) H H5 → Pv D (i + 1) (acc ++ [y]) H5) : ∃ acc, H D = some (.lst acc) ∧ acc.length < sizeLine ∧ LcI Pv D (i + 1) (upd H D (.lst (acc ++ [y]))) :=
  ⟨acc, e, by rw [sizeLine_eq]; omega, acc ++ [y], by rw [List.length_append]; show acc.length + 1 ≤ i + 1; omega, upd_same, h _ chg_upd⟩
theorem lc_not {Pv : Addr → Nat → List V → Hp → Prop} {D : Addr} {i : Nat} {acc : List V} (ha : acc.length ≤ i) (e : H D = some (.lst acc)) (h : Pv D (i + 1) acc H) : LcI Pv D (i + 1) H := ⟨acc, by omega, e, h⟩
/-- a while -/
theorem r_while {c : TT} (Pv : St → Hp → Prop) (μ : St → Hp → Nat) (h0 : Pv σ H)
    (hs : ∀ σ H, Pv σ H → c σ H fun b H1 => if b = true then ∃ N : St → Hp → Prop, (∀ σ' H', N σ' H' → ∃ m', m' < μ σ H ∧ (m' = μ σ' H' ∧ Pv σ' H')) ∧ tb ⟨N, rt, nx, N⟩ σ H1 else nx σ H1) : tWhile c tb ⟨nx, rt, bk, ct⟩ σ H := by
  refine ⟨fun m σ H => m = μ σ H ∧ Pv σ H, ⟨_, rfl, h0⟩, ?_⟩
  rintro m σ H ⟨rfl, p⟩
  exact hs σ H p
theorem wh_body {Pv : St → Hp → Prop} {μ : St → Hp → Nat} {m : Nat} {H1 : Hp} (h : tb ⟨fun σ' H' => Pv σ' H' ∧ μ σ' H' < m, rt, nx, fun σ' H' => Pv σ' H' ∧ μ σ' H' < m⟩ σ H1) :
    ∃ N : St → Hp → Prop, (∀ σ' H', N σ' H' → ∃ m', m' < m ∧ (m' = μ σ' H' ∧ Pv σ' H')) ∧ tb ⟨N, rt, nx, N⟩ σ H1 := ⟨_, fun σ' H' h => ⟨_, h.2, rfl, h.1⟩, h⟩
end
/-! ### the steps by their heads -/
/-- a fact of an elder heap, in the newest -/
theorem sm_of {H H' : Hp} {a : Addr} {o : HO} (s : Same H H') (h : H a = some o) : H' a = some o := s a o h
theorem sm_chg {H H1 H2 : Hp} {D : Addr} {o : HO} (s : Same H H1) (h : H D = none) (c : Chg D o H1 H2) : Same H H2 := fun b u e => c.2 b u (ne_of_none e h) (s b u e)
theorem sm_tup {K : PySem.W.Frag} {H H' : Hp} {a : Addr} {xs : List V} (e : Same H H') (h : SqT K H a xs) : SqT K H' a xs := by
  rcases h with (h | ⟨o, h⟩) | h
  · exact .inl (.inl (e _ _ h))
  · exact .inl (.inr ⟨o, e _ _ h⟩)
  · exact .inr h
theorem sm_rd {H H' : Hp} {a : Addr} {u : HO} (e : Same H H') (h : Rd H a u) : Rd H' a u := by
  rcases h with h | ⟨o, h⟩
  · exact .inl (e _ _ h)
  · exact .inr ⟨o, e _ _ h⟩
end Pk
namespace Pk
open PySem PySem.Spec L2
/-- a def of the module's top, called by its name -/
structure FnAt (P : Program) (w : World) (K : PySem.W.Frag) (mg : Str → Option Value) (base : Heap) (x : Str) (k : Nat) (ps : List Str) (sp : Sp) (f : Addr) (fd : FuncData) : Prop where
  ok : FnOk P w K mg base (L2.CX P w) k f fd ps sp
  mg : mg x = some (.ref f)
  kp : PySem.W.keepIn K (.ref f) = true
  b : Binds K fd ps []
/-- a method of the class at C -/
structure MeAt (P : Program) (w : World) (K : PySem.W.Frag) (mg : Str → Option Value) (base : Heap) (C : Addr) (m : Str) (k : Nat) (ps : List Str) (sp : Sp) (f : Addr) (fd : FuncData) : Prop where
  ok : FnOk P w K mg base (L2.CX P w) k f fd ps sp
  mt : Meth K C m f
  b : Binds K fd ps []
/-- the class's __init__ -/
structure MeI (P : Program) (w : World) (K : PySem.W.Frag) (mg : Str → Option Value) (base : Heap) (C : Addr) (k : Nat) (ps : List Str) (sp : Sp) (f : Addr) (fd : FuncData) : Prop where
  ok : FnOk P w K mg base (L2.CX P w) k f fd ps sp
  b : Binds K fd ps []
theorem cx_no {P : Program} {w : World} {outer : List Env} {H : Hp} {s : Shared} {e : Value} {s2 : Shared} (h : L2.CX P w outer H s (fun _ _ _ => False) e s2) : False := by
  obtain ⟨_, _, _, _, _, _, _, _, _, _, _, _, z⟩ := h
  exact z
/-- what a raised own class must say -/
structure ExAt (K : PySem.W.Frag) (mg : Str → Option Value) (x : Str) (C : Addr) : Prop where
  mg : mg x = some (.ref C)
  x : PySem.W.excIn K C He.veBase "ValueError.__new__" = true
  k : PySem.W.keepIn K (.ref C) = true
  b : PySem.W.subIn K (.ref C) (.type "BaseException") = some true
  t : PySem.W.typeIn K (.ref C) = some (.type "type")
/-- the facts of the head, and one more of one's own -/
def hookP (n : Nat) (fa : List He.Fa) (fn : List He.DefD) (ex : PySem.W.Frag → Bool) : PySem.W.Hook where
  α := He.AlD × Bool
  obs := fun s => (He.obsDG n fa fn s.heap.get?, ex (He.frG s.heap.get? (He.asD s.heap.get? n)))
  val := fun _ => (He.valD fn, true)
  says := fun _ h => ∃ K : PySem.W.Frag, K.In h ∧ He.SaysD fa fn K ∧ ex K = true
  of := fun _ _ e => ⟨_, He.frG_in, congrArg Prod.fst e, congrArg Prod.snd e⟩
  keeps := fun _ _ _ ⟨K, hK, c⟩ k => ⟨K, PySem.W.Frag.In.keeps hK k, c⟩
def obsP (n : Nat) (fa : List He.Fa) (fn : List He.DefD) (ex : PySem.W.Frag → Bool) (g : Addr → Option Obj) : He.AlD × Bool := (He.obsDG n fa fn g, ex (He.frG g (He.asD g n)))
theorem obsP_eq {n : Nat} {fa : List He.Fa} {fn : List He.DefD} {ex : PySem.W.Frag → Bool} {g : Addr → Option Obj} {s : Shared} (h : ∀ a, g a = s.heap.get? a) : obsP n fa fn ex g = (hookP n fa fn ex).obs s := by
  have e : g = s.heap.get? := funext h
  rw [e]
  rfl
end Pk
/-! PkM: the mathematics, and facts of the slots and heaps that several defs share. -/
namespace Pk
open PySem PySem.Spec L2
/-- where a change fits -/
def Fits (z : List Nat) (at_ : Int) (gone : List Nat) : Prop := 0 ≤ at_ ∧ at_ + gone.length ≤ z.length ∧ cutL z (some at_) (some (at_ + gone.length)) = gone
def doneL (z : List Nat) (at_ : Int) (gone come : List Nat) : List Nat := cutL z none (some at_) ++ come ++ cutL z (some (at_ + gone.length)) none
/-- a text of at most n signs -/
def Tx (n : Nat) (l : List Nat) : Prop := l.length ≤ n ∧ Ok l
theorem Tx.mono {n m : Nat} {l : List Nat} (h : Tx n l) (e : n ≤ m) : Tx m l := ⟨by have := h.1; omega, h.2⟩
theorem Tx.app {n m : Nat} {a b : List Nat} (h : Tx n a) (g : Tx m b) : Tx (n + m) (a ++ b) := ⟨by rw [List.length_append]; have := h.1; have := g.1; omega, fun c hc => (List.mem_append.mp hc).elim (h.2 c) (g.2 c)⟩
theorem Tx.sub {n : Nat} {a b : List Nat} (h : Tx n b) (s : a.Sublist b) : Tx n a := ⟨by have := h.1; have := s.length_le; omega, fun c hc => h.2 c (s.subset hc)⟩
theorem Tx.take {n : Nat} {a : List Nat} (h : Tx n a) (k : Nat) : Tx n (a.take k) := h.sub (List.take_sublist k a)
theorem Tx.drop {n : Nat} {a : List Nat} (h : Tx n a) (k : Nat) : Tx n (a.drop k) := h.sub (List.drop_sublist k a)
theorem Tx.cut {n : Nat} {a : List Nat} (h : Tx n a) (lo hi : Option Int) : Tx n (cutL a lo hi) := (h.drop _).take _
theorem strOk_of {l : List Nat} (h : Ok l) : PyData.strOk (S l) = true := by
  unfold PyData.strOk
  rw [Array.all_eq_true]
  intro i hi
  exact decide_eq_true (h _ (by simp))
theorem dp_i (K : PySem.W.Frag) (H : Hp) (i : Int) : Dp K H (.int i) (.int i) := .int i
/-- a change as data -/
abbrev chD (i : Int) (a b : List Nat) : PyData := .tuple [.int i, .str (S a), .str (S b)]
theorem chD_dp {K : PySem.W.Frag} {H : Hp} {t : Addr} {i : Int} {a b : List Nat} (h : H t = some (.tup [.int i, .str (S a), .str (S b)])) : Dp K H (.ref t) (chD i a b) := .tup (.of h) (.cons (.int i) (.cons (.str _) (.cons (.str _) .nil)))
theorem chD_lay {i : Int} {a b : List Nat} (ha : Ok a) (hb : Ok b) : (chD i a b).canLay0 = true := by
  simp [chD, PyData.canLay0, PyData.canLayAll0, strOk_of ha, strOk_of hb]
theorem chD_shaped {i : Int} {a b : List Nat} (ha : Ok a) (hb : Ok b) : SeqAt.shaped (chD i a b) = true := by
  unfold SeqAt.shaped
  rw [chD_lay ha hb]
  rfl
theorem r_eqSame {K : PySem.W.Frag} {H : Hp} {Q : VK} {x y : V} (d : PyData) (h1 : Dp K H x d) (h2 : Dp K H y d) (s : SeqAt.shaped d = true) (h : Q (.bl true) H) : rEqG K x y H Q :=
  r_eqD d d h1 h2 s s (by rw [SeqAt.eqv_refl d (SeqAt.canLay_of_shaped s)]; exact h)
theorem r_neSame {K : PySem.W.Frag} {H : Hp} {Q : VK} {x y : V} (d : PyData) (h1 : Dp K H x d) (h2 : Dp K H y d) (s : SeqAt.shaped d = true) (h : Q (.bl false) H) : rNeG K x y H Q :=
  r_neD d d h1 h2 s s (by rw [SeqAt.eqv_refl d (SeqAt.canLay_of_shaped s)]; exact h)
theorem cutL_len (z : List Nat) (lo hi : Option Int) : (cutL z lo hi).length ≤ z.length := by
  unfold cutL
  rw [List.length_take, List.length_drop]
  omega
theorem cutL_nn (z : List Nat) (i j : Nat) : cutL z (some (i : Int)) (some (j : Int)) = (z.drop i).take (j - i) := by
  unfold cutL
  rw [HT.sIx_nat, HT.sIx_nat]
  by_cases h : i ≤ z.length
  · rw [Nat.min_eq_left h]
    by_cases h2 : j ≤ z.length
    · rw [Nat.min_eq_left h2]
    · rw [Nat.min_eq_right (show z.length ≤ j by omega), List.take_of_length_le (by rw [List.length_drop]; omega), List.take_of_length_le (by rw [List.length_drop]; omega)]
  · rw [Nat.min_eq_right (show z.length ≤ i by omega), List.drop_eq_nil_of_le (Nat.le_refl z.length), List.drop_eq_nil_of_le (show z.length ≤ i by omega)]
    simp
theorem cutL_to (z : List Nat) (j : Nat) : cutL z none (some (j : Int)) = z.take j := by
  unfold cutL
  rw [HT.sIx_nat, HT.sIx_none, List.drop_zero, Nat.sub_zero]
  by_cases h : j ≤ z.length
  · rw [Nat.min_eq_left h]
  · rw [Nat.min_eq_right (show z.length ≤ j by omega), List.take_of_length_le (Nat.le_refl _), List.take_of_length_le (show z.length ≤ j by omega)]
theorem cutL_from (z : List Nat) (i : Nat) : cutL z (some (i : Int)) none = z.drop i := by
  unfold cutL
  rw [HT.sIx_nat, HT.sIx_none]
  by_cases h : i ≤ z.length
  · rw [Nat.min_eq_left h, List.take_of_length_le (by rw [List.length_drop]; omega)]
  · rw [Nat.min_eq_right (show z.length ≤ i by omega), List.drop_eq_nil_of_le (Nat.le_refl z.length), List.drop_eq_nil_of_le (show z.length ≤ i by omega)]
    simp
theorem fits_of {p gone s : List Nat} : Fits (p ++ gone ++ s) (p.length : Int) gone := by
  refine ⟨by omega, by simp only [List.length_append]; omega, ?_⟩
  rw [show ((p.length : Int) + (gone.length : Int)) = ((p.length + gone.length : Nat) : Int) by omega, cutL_nn, List.append_assoc, List.drop_left, Nat.add_sub_cancel_left, List.take_left]
theorem fits_split {z gone : List Nat} {at_ : Int} (h : Fits z at_ gone) : ∃ p s, z = p ++ gone ++ s ∧ at_ = (p.length : Int) := by
  obtain ⟨h1, h2, h3⟩ := h
  obtain ⟨k, rfl⟩ : ∃ k : Nat, at_ = k := ⟨at_.toNat, by omega⟩
  rw [show ((k : Int) + (gone.length : Int)) = ((k + gone.length : Nat) : Int) by omega, cutL_nn, Nat.add_sub_cancel_left] at h3
  refine ⟨z.take k, (z.drop k).drop gone.length, ?_, by rw [List.length_take]; omega⟩
  have e : z.drop k = gone ++ (z.drop k).drop gone.length := by
    conv => lhs; rw [← List.take_append_drop gone.length (z.drop k), h3]
  rw [List.append_assoc, ← e, List.take_append_drop]
theorem done_of {p gone s come : List Nat} : doneL (p ++ gone ++ s) (p.length : Int) gone come = p ++ come ++ s := by
  unfold doneL
  rw [show ((p.length : Int) + (gone.length : Int)) = ((p.length + gone.length : Nat) : Int) by omega, cutL_to, cutL_from]
  rw [show (p ++ gone ++ s).take p.length = p by rw [List.append_assoc, List.take_left]]
  rw [show (p ++ gone ++ s).drop (p.length + gone.length) = s by rw [← List.length_append, List.drop_left]]
def cellAt (ns : List Int) (k : Int) : Int := ns.getD k.toNat 0
/-! ### bases: dicts from numbers to numbers or None -/
def obV : Option Int → V
  | none => .non
  | some b => .int b
def bK (lv : List (Int × Option Int)) : List (Key × V) := lv.map fun p => (.inl p.1, obV p.2)
def look {β : Type} (lv : List (Int × β)) (n : Int) : Option β := (lv.find? fun p => decide (p.1 = n)).map Prod.snd
theorem look_nil {β : Type} (n : Int) : look ([] : List (Int × β)) n = none := rfl
theorem look_cons {β : Type} (a : Int) (b : β) (r : List (Int × β)) (n : Int) : look ((a, b) :: r) n = if a = n then some b else look r n := by
  unfold look
  rw [List.find?_cons]
  by_cases h : a = n
  · simp [h]
  · simp [h]
theorem look_app {β : Type} (n : Int) : ∀ l m : List (Int × β), look (l ++ m) n = (look l n).or (look m n)
  | [], m => rfl
  | (a, b) :: r, m => by
    rw [List.cons_append, look_cons, look_cons]
    by_cases h : a = n
    · rw [if_pos h, if_pos h]; rfl
    · rw [if_neg h, if_neg h]; exact look_app n r m
theorem look_mem {β : Type} {n : Int} {b : β} : ∀ {l : List (Int × β)}, look l n = some b → (n, b) ∈ l
  | [], h => by cases h
  | (a, c) :: r, h => by
    rw [look_cons] at h
    by_cases e : a = n
    · rw [if_pos e] at h
      cases h; subst e; exact List.mem_cons_self
    · rw [if_neg e] at h
      exact List.mem_cons_of_mem _ (look_mem h)
theorem look_of_mem {β : Type} {n : Int} {b : β} : ∀ {l : List (Int × β)}, (l.map Prod.fst).Nodup → (n, b) ∈ l → look l n = some b
  | [], _, h => by cases h
  | (a, c) :: r, nd, h => by
    rw [List.map_cons, List.nodup_cons] at nd
    rw [look_cons]
    rcases List.mem_cons.mp h with e | h
    · cases e; rw [if_pos rfl]
    · rw [if_neg (fun e => nd.1 (by subst e; exact List.mem_map.mpr ⟨_, h, rfl⟩))]
      exact look_of_mem nd.2 h
theorem look_none {β : Type} {n : Int} : ∀ {l : List (Int × β)}, look l n = none ↔ n ∉ l.map Prod.fst
  | [] => by simp [look_nil]
  | (a, c) :: r => by
    rw [look_cons, List.map_cons, List.mem_cons]
    by_cases e : a = n
    · rw [if_pos e]; subst e; simp
    · rw [if_neg e, look_none]
      exact ⟨fun h z => z.elim (fun q => e q.symm) h, fun h z => h (.inr z)⟩
theorem bK_val (lv : List (Int × Option Int)) (n : Int) : valV (bK lv) (.inl n) = (look lv n).map obV := by
  induction lv with
  | nil => rfl
  | cons p r ih =>
    obtain ⟨a, b⟩ := p
    rw [look_cons]
    unfold valV bK at *
    rw [List.map_cons, List.find?_cons]
    by_cases h : a = n
    · subst h; simp
    · have e : decide ((Sum.inl a : Key) = Sum.inl n) = false := decide_eq_false fun q => h (Sum.inl.inj q)
      rw [if_neg h]
      simp only [e]
      exact ih
theorem bK_keys (lv : List (Int × Option Int)) : (bK lv).map (·.1) = (lv.map Prod.fst).map Sum.inl := by
  unfold bK
  rw [List.map_map, List.map_map]
  rfl
theorem bK_put {lv : List (Int × Option Int)} {n : Int} {b : Option Int} (h : look lv n = none) : putK (bK lv) (.inl n) (obV b) = bK (lv ++ [(n, b)]) := by
  rw [putK_new _ (by rw [bK_val, h]; rfl)]
  unfold bK
  rw [List.map_append]
  rfl
theorem bK_len (lv : List (Int × Option Int)) : (bK lv).length = lv.length := List.length_map _
/-- a version's chain -/
inductive Ch (lv : List (Int × Option Int)) : Int → List Int → Prop
  | whole {n : Int} : look lv n = some none → Ch lv n [n]
  | lean {n b : Int} {c : List Int} : look lv n = some (some b) → Ch lv b c → Ch lv n (n :: c)
theorem Ch.inj {lv : List (Int × Option Int)} {n : Int} {c d : List Int} (h : Ch lv n c) (g : Ch lv n d) : c = d := by
  induction h generalizing d with
  | whole e => cases g with
    | whole _ => rfl
    | lean e2 _ => rw [e] at e2; cases e2
  | lean e _ ih => cases g with
    | whole e2 => rw [e] at e2; cases e2
    | lean e2 g2 => rw [e] at e2; cases e2; rw [ih g2]
theorem Ch.look {lv : List (Int × Option Int)} {n : Int} {c : List Int} (h : Ch lv n c) : ∃ o, Pk.look lv n = some o := by
  cases h with
  | whole e => exact ⟨_, e⟩
  | lean e _ => exact ⟨_, e⟩
theorem Ch.head {lv : List (Int × Option Int)} {n : Int} {c : List Int} (h : Ch lv n c) : ∃ r, c = n :: r := by
  cases h with
  | whole e => exact ⟨_, rfl⟩
  | lean e _ => exact ⟨_, rfl⟩
theorem Ch.at {lv : List (Int × Option Int)} {n : Int} {c : List Int} (h : Ch lv n c) : ∀ (i : Nat) (x : Int), c[i]? = some x → Pk.look lv x = some c[i + 1]? := by
  induction h with
  | whole e =>
    intro i x q
    cases i with
    | zero => cases q; exact e
    | succ i => simp at q
  | @lean n b c e hb ih =>
    intro i x q
    cases i with
    | zero =>
      cases q
      obtain ⟨r, rfl⟩ := hb.head
      exact e
    | succ i => exact ih i x q
/-- each chain ends; r bounds how long it is -/
def Wood (lv : List (Int × Option Int)) (rk : Int → Nat) : Prop := ∀ n b, look lv n = some (some b) → (look lv b).isSome ∧ rk b < rk n
theorem Wood.ch {lv : List (Int × Option Int)} {rk : Int → Nat} (w : Wood lv rk) : ∀ (k : Nat) (n : Int), rk n ≤ k → (look lv n).isSome → ∃ c, Ch lv n c ∧ c.length ≤ rk n + 1
  | k, n, hk, h => by
    cases e : look lv n with
    | none => rw [e] at h; cases h
    | some o =>
      cases o with
      | none => exact ⟨[n], .whole e, by show 1 ≤ rk n + 1; omega⟩
      | some b =>
        obtain ⟨h1, h2⟩ := w n b e
        cases k with
        | zero => omega
        | succ k =>
          obtain ⟨c, hc, hl⟩ := Wood.ch w k b (by omega) h1
          exact ⟨n :: c, .lean e hc, by rw [List.length_cons]; omega⟩

theorem menu2 {x y : V} {i : Int} (h : 0 ≤ i ∧ i < 2) : ∃ v, atI [x, y] i = some v ∧ (v = x ∨ v = y) := by
  have h : i = 0 ∨ i = 1 := by omega
  rcases h with rfl | rfl
  · exact ⟨x, rfl, .inl rfl⟩
  · exact ⟨y, rfl, .inr rfl⟩
/-- wood as a law builds it: names f, the k-th leans on one ahead -/
theorem wood_of {many : Nat} {f : Nat → Int} {bl : List (Option Int)} {os : List Nat} (hm : many ≤ 31) (inj : ∀ j k, j < 31 → k < 31 → f j = f k → j = k) (hb : bl.length = many)
    (hlow : ∀ k b, bl[k]? = some (some b) → ∃ j, j < k ∧ b = f j) (ho : ∀ k, k ∈ os ↔ k < many) (nd : os.Nodup) :
    ((os.map fun k => (f k, bl.getD k none)).map Prod.fst).Nodup ∧ ∃ rk : Int → Nat, Wood (os.map fun k => (f k, bl.getD k none)) rk ∧ ∀ n, rk n ≤ 30 := by
  have hnd : ((os.map fun k => (f k, bl.getD k none)).map Prod.fst).Nodup := by
    rw [List.map_map]
    have e : (Prod.fst ∘ fun k => (f k, bl.getD k none)) = f := rfl
    rw [e]
    refine List.Pairwise.map f (fun j k h q => h.2.2 (inj j k h.1 h.2.1 q)) (R := fun j k => j < 31 ∧ k < 31 ∧ j ≠ k) ?_
    have h1 : os.Pairwise fun j k => j ≠ k := nd
    refine List.Pairwise.imp_of_mem ?_ h1
    intro j k hj hk h
    exact ⟨by have := (ho j).mp hj; omega, by have := (ho k).mp hk; omega, h⟩
  refine ⟨hnd, fun n => ((List.range 31).find? fun k => decide (f k = n)).getD 0, ?_, ?_⟩
  · have rkf : ∀ k, k < 31 → ((List.range 31).find? fun j => decide (f j = f k)).getD 0 = k := fun k hk => by
      cases e : (List.range 31).find? fun j => decide (f j = f k) with
      | none => exact absurd (List.find?_eq_none.mp e k (List.mem_range.mpr hk)) (by simp)
      | some j =>
        have h1 := List.find?_some e
        have h2 := List.mem_of_find?_eq_some e
        exact inj j k (List.mem_range.mp h2) hk (of_decide_eq_true h1)
    intro n b h
    obtain ⟨k, hk, e⟩ := List.mem_map.mp (look_mem h)
    injection e with e1 e2
    subst e1
    have hk2 := (ho k).mp hk
    obtain ⟨j, hj, rfl⟩ := hlow k b (by rw [List.getElem?_eq_getElem (by omega)]; rw [List.getD_eq_getElem?_getD, List.getElem?_eq_getElem (by omega)] at e2; exact congrArg some e2)
    have hjm : j ∈ os := (ho j).mpr (by omega)
    refine ⟨?_, ?_⟩
    · rw [look_of_mem hnd (List.mem_map.mpr ⟨j, hjm, rfl⟩)]; rfl
    · show ((List.range 31).find? fun i => decide (f i = f j)).getD 0 < ((List.range 31).find? fun i => decide (f i = f k)).getD 0
      rw [rkf j (by omega), rkf k (by omega)]
      exact hj
  · intro n
    show ((List.range 31).find? fun k => decide (f k = n)).getD 0 ≤ 30
    cases e : (List.range 31).find? fun j => decide (f j = n) with
    | none => exact Nat.zero_le _
    | some j =>
      have := List.mem_range.mp (List.mem_of_find?_eq_some e)
      show j ≤ 30
      omega

/-! ### data: lists of numbers, dicts of bases -/
abbrev inD (c : List Int) : PyData := .list (c.map PyData.int)
theorem ins_dp {K : PySem.W.Frag} {H : Hp} : ∀ c : List Int, DpAll K H (c.map V.int) (c.map PyData.int)
  | [] => .nil
  | i :: r => .cons (.int i) (ins_dp r)
theorem inD_dp {K : PySem.W.Frag} {H : Hp} {p : Addr} {c : List Int} (h : SqL K H p (c.map V.int)) : Dp K H (.ref p) (inD c) := .lst h (ins_dp c)
theorem ins_lay : ∀ c : List Int, PyData.canLayAll0 (c.map PyData.int) = true
  | [] => rfl
  | i :: r => by
    rw [List.map_cons, PyData.canLayAll0, ins_lay r]
    rfl
theorem ins_depth : ∀ c : List Int, PyData.depthAll (c.map PyData.int) ≤ 1
  | [] => by decide
  | i :: r => by
    have := ins_depth r
    rw [List.map_cons, PyData.depthAll]
    have e : (PyData.int i).depth ≤ 1 := by rw [PyData.depth]; decide
    omega
theorem inD_shaped (c : List Int) : SeqAt.shaped (inD c) = true := by
  unfold SeqAt.shaped inD
  rw [PyData.canLay0, ins_lay, PyData.depth]
  have := ins_depth c
  simp
  omega
theorem bK_list (lv : List (Int × Option Int)) : ((bK lv).map fun kv => kV kv.1) = (lv.map Prod.fst).map V.int := by
  unfold bK
  rw [List.map_map, List.map_map]
  rfl
theorem obV_flat (o : Option Int) : flatB (obV o) = true := by cases o <;> rfl
theorem r_neB {K : PySem.W.Frag} {H : Hp} {Q : VK} {p q : Addr} {lv : List (Int × Option Int)} (hp : H p = some (.dK (bK lv))) (hq : H q = some (.dK (bK lv))) (nd : (lv.map Prod.fst).Nodup) (h : Q (.bl false) H) : rNeG K (.ref p) (.ref q) H Q := by
  refine .inr (.inr ⟨p, q, _, _, rfl, rfl, hp, hq, rfl, fun kv hkv => ?_, h⟩)
  obtain ⟨⟨n, o⟩, hm, rfl⟩ := List.mem_map.mp hkv
  exact ⟨by rw [bK_val, look_of_mem nd hm]; rfl, obV_flat o⟩

/-! ### the change between two texts -/
def lcp : List Nat → List Nat → Nat
  | a :: as, b :: bs => if a = b then lcp as bs + 1 else 0
  | _, _ => 0
theorem lcp_le1 : ∀ a b : List Nat, lcp a b ≤ a.length
  | [], _ => Nat.zero_le _
  | _ :: _, [] => Nat.zero_le _
  | x :: as, y :: bs => by
    rw [lcp, List.length_cons]
    by_cases h : x = y
    · rw [if_pos h]; exact Nat.succ_le_succ (lcp_le1 as bs)
    · rw [if_neg h]; exact Nat.zero_le _
theorem lcp_le2 : ∀ a b : List Nat, lcp a b ≤ b.length
  | [], _ => Nat.zero_le _
  | _ :: _, [] => Nat.zero_le _
  | x :: as, y :: bs => by
    rw [lcp, List.length_cons]
    by_cases h : x = y
    · rw [if_pos h]; exact Nat.succ_le_succ (lcp_le2 as bs)
    · rw [if_neg h]; exact Nat.zero_le _
theorem lcp_lt : ∀ (a b : List Nat) (k : Nat), k ≤ lcp a b → (k < lcp a b ↔ k < a.length ∧ k < b.length ∧ a[k]? = b[k]?)
  | [], b, k, h => by simp [lcp] at h ⊢
  | _ :: _, [], k, h => by simp [lcp] at h ⊢
  | x :: as, y :: bs, k, h => by
    rw [lcp] at h ⊢
    by_cases e : x = y
    · rw [if_pos e] at h ⊢
      subst e
      cases k with
      | zero => simp
      | succ k =>
        have := lcp_lt as bs k (by omega)
        simp only [List.length_cons, List.getElem?_cons_succ]
        exact ⟨fun q => have z := this.mp (by omega); ⟨by omega, by omega, z.2.2⟩, fun q => by have := this.mpr ⟨by omega, by omega, q.2.2⟩; omega⟩
    · rw [if_neg e] at h ⊢
      have : k = 0 := by omega
      subst this
      simp [e]
theorem lcp_take : ∀ (a b : List Nat) (i : Nat), i ≤ a.length → i ≤ b.length → (a.take i = b.take i ↔ i ≤ lcp a b)
  | _, _, 0, _, _ => by simp
  | [], _, i + 1, h, _ => by simp at h
  | _ :: _, [], i + 1, _, h => by simp at h
  | x :: as, y :: bs, i + 1, h1, h2 => by
    rw [lcp, List.take_succ_cons, List.take_succ_cons]
    by_cases e : x = y
    · rw [if_pos e]
      subst e
      have := lcp_take as bs i (by simpa using h1) (by simpa using h2)
      simp only [List.cons.injEq, true_and]
      exact ⟨fun q => Nat.succ_le_succ (this.mp q), fun q => this.mpr (by omega)⟩
    · rw [if_neg e]
      simp [e]
/-- how many signs at the end are left, of so many at most -/
def lcs (a b : List Nat) : Nat := lcp a.reverse b.reverse
def atOf (a b : List Nat) : Nat := lcp a b
def tailOf (a b : List Nat) : Nat := min (min a.length b.length - lcp a b) (lcs a b)
def goneOf (a b : List Nat) : List Nat := (a.drop (atOf a b)).take (a.length - tailOf a b - atOf a b)
def comeOf (a b : List Nat) : List Nat := (b.drop (atOf a b)).take (b.length - tailOf a b - atOf a b)
theorem part3 (a : List Nat) (i k : Nat) (h : i + k ≤ a.length) : a = a.take i ++ (a.drop i).take (a.length - k - i) ++ a.drop (a.length - k) := by
  have e : (a.drop i).drop (a.length - k - i) = a.drop (a.length - k) := by rw [List.drop_drop]; congr 1; omega
  rw [List.append_assoc, ← e, List.take_append_drop, List.take_append_drop]
theorem drop_rev (a : List Nat) (k : Nat) (h : k ≤ a.length) : a.drop (a.length - k) = (a.reverse.take k).reverse := by
  rw [List.take_reverse, List.reverse_reverse]
theorem tail_le (a b : List Nat) : atOf a b + tailOf a b ≤ a.length ∧ atOf a b + tailOf a b ≤ b.length := by
  unfold tailOf atOf
  have := lcp_le1 a b
  have := lcp_le2 a b
  omega
theorem tail_eq (a b : List Nat) : a.drop (a.length - tailOf a b) = b.drop (b.length - tailOf a b) := by
  have h := tail_le a b
  rw [drop_rev a _ (by omega), drop_rev b _ (by omega)]
  congr 1
  refine (lcp_take _ _ _ (by rw [List.length_reverse]; omega) (by rw [List.length_reverse]; omega)).mpr ?_
  unfold tailOf lcs
  omega
theorem head_eq (a b : List Nat) : a.take (atOf a b) = b.take (atOf a b) := (lcp_take a b _ (lcp_le1 a b) (lcp_le2 a b)).mpr (Nat.le_refl _)
/-- what both have alike ahead and behind -/
theorem change_parts (a b : List Nat) : ∃ p s, a = p ++ goneOf a b ++ s ∧ b = p ++ comeOf a b ++ s ∧ p.length = atOf a b ∧ s.length = tailOf a b := by
  have h := tail_le a b
  refine ⟨a.take (atOf a b), a.drop (a.length - tailOf a b), part3 a _ _ (by omega), ?_, by rw [List.length_take]; omega, by rw [List.length_drop]; omega⟩
  rw [head_eq, tail_eq]
  exact part3 b _ _ (by omega)
theorem change_fits (a b : List Nat) : Fits a (atOf a b : Int) (goneOf a b) ∧ doneL a (atOf a b : Int) (goneOf a b) (comeOf a b) = b := by
  obtain ⟨p, s, e1, e2, e3, _⟩ := change_parts a b
  generalize goneOf a b = g at *
  generalize comeOf a b = c at *
  rw [← e3]
  subst e1
  exact ⟨fits_of, by rw [done_of, ← e2]⟩
theorem gone_sub (a b : List Nat) : (goneOf a b).Sublist a := (List.take_sublist _ _).trans (List.drop_sublist _ _)
theorem come_sub (a b : List Nat) : (comeOf a b).Sublist b := (List.take_sublist _ _).trans (List.drop_sublist _ _)
theorem gone_len (a b : List Nat) : (goneOf a b).length + atOf a b + tailOf a b = a.length := by
  obtain ⟨p, s, e1, _, e3, e4⟩ := change_parts a b
  have := congrArg List.length e1
  simp only [List.length_append] at this
  omega
theorem come_len (a b : List Nat) : (comeOf a b).length + atOf a b + tailOf a b = b.length := by
  obtain ⟨p, s, _, e2, e3, e4⟩ := change_parts a b
  have := congrArg List.length e2
  simp only [List.length_append] at this
  omega
theorem join_ok {r : List Nat} {ls : List (List Nat)} (e : Txt.join (Str.ofString "") (ls.map S) = S r) (h : ∀ l ∈ ls, l.length = 1 ∧ Ok l) : Ok r := by
  have e0 : Str.ofString "" = S [] := by decide +kernel
  rw [e0, TL.join_eq] at e
  have e2 := congrArg TL.tl e
  rw [TL.tl_join] at e2
  have e3 : TL.joinL (TL.tl (S [])) ((ls.map S).map TL.tl) = TL.joinL [] ls := by
    have : (ls.map S).map TL.tl = ls := by rw [List.map_map]; exact (List.map_congr_left fun l _ => by simp [TL.tl]).trans (List.map_id ls)
    rw [this]
  rw [e3] at e2
  have e4 : ∀ m : List (List Nat), TL.joinL [] m = m.flatten := fun m => by
    induction m with
    | nil => rfl
    | cons a m ih =>
      cases m with
      | nil => simp [TL.joinL]
      | cons b m => rw [TL.joinL, ih]; rfl
  rw [e4] at e2
  have e5 : r = ls.flatten := by
    have : TL.tl (S r) = r := by simp [TL.tl]
    rw [this] at e2
    exact e2.symm
  subst e5
  intro c hc
  obtain ⟨l, hl, hcl⟩ := List.mem_flatten.mp hc
  exact (h l hl).2 c hcl
theorem r_join1 {K : PySem.W.Frag} {D : Addr} {H : Hp} {Q : VK} {ls : List (List Nat)} (hl : ∀ l ∈ ls, l.length = 1 ∧ Ok l) (e : H D = some (.lst (ls.map fun l => V.str (S l)))) (hn : ls.length ≤ 1000000)
    (h : ∀ r : List Nat, r.length = ls.length → Ok r → Q (.str (S r)) H) : rJoin K (.str (Str.ofString "")) [.ref D] H Q := by
  obtain ⟨r, er⟩ := S_of (Txt.join (Str.ofString "") (ls.map S))
  have hs : (ls.map S).map Str.length = ls.map fun _ => 1 := by
    rw [List.map_map]
    refine List.map_congr_left fun l h => ?_
    show (S l).length = 1
    rw [S_len, (hl l h).1]
  have sum1 : ∀ m : List (List Nat), (m.map fun _ => 1).sum = m.length := fun m => by
    induction m with
    | nil => rfl
    | cons a m ih => rw [List.map_cons, List.sum_cons, ih, List.length_cons]; omega
  refine ⟨_, D, ls.map S, rfl, rfl, .inl (.of (by rw [List.map_map]; exact e)), ?_, ?_⟩
  · rw [hs, sum1, List.length_map]
    show ls.length + ls.length * 0 ≤ 16777216
    omega
  · rw [er]
    refine h r ?_ (join_ok er hl)
    have q := size_glued (Str.ofString "") (ls.map S)
    rw [hs, sum1, List.length_map] at q
    have q2 : (S r).length = ls.length + (ls.length - 1) * (Str.ofString "").length := by rw [← er]; exact q
    rw [S_len] at q2
    have q3 : (Str.ofString "").length = 0 := by decide +kernel
    rw [q3] at q2
    omega

/-- all that both have alike, ahead and behind -/
def mostOf (a b : List Nat) : Nat := min (min a.length b.length) (lcp a b + lcs a b)
theorem most_eq (a b : List Nat) : mostOf a b = atOf a b + tailOf a b := by
  unfold mostOf atOf tailOf
  have := lcp_le1 a b
  have := lcp_le2 a b
  omega
theorem drop_eq_iff (a b : List Nat) (k : Nat) (ha : k ≤ a.length) (hb : k ≤ b.length) : a.drop (a.length - k) = b.drop (b.length - k) ↔ k ≤ lcs a b := by
  rw [drop_rev a k ha, drop_rev b k hb]
  rw [show (a.reverse.take k).reverse = (b.reverse.take k).reverse ↔ a.reverse.take k = b.reverse.take k from ⟨fun h => List.reverse_inj.mp h, fun h => by rw [h]⟩]
  exact lcp_take _ _ _ (by rw [List.length_reverse]; exact ha) (by rw [List.length_reverse]; exact hb)
def mo (n l i : Nat) : Nat := if i = 0 then 0 else min n (i - 1 + l)
theorem mo_succ (n l i : Nat) : mo n l (i + 1) = min n (i + l) := by
  unfold mo
  rw [if_neg (by omega), Nat.add_sub_cancel]
theorem mo_le (n l i : Nat) : mo n l i ≤ min n (i + l) := by
  unfold mo
  by_cases h : i = 0
  · rw [if_pos h]; omega
  · rw [if_neg h]; omega
/-- the signs at the place differ, or a text ends there -/
theorem at_differ (a b : List Nat) (h1 : atOf a b < a.length) (h2 : atOf a b < b.length) : a[atOf a b]? ≠ b[atOf a b]? := fun e => by
  have := (lcp_lt a b (lcp a b) (Nat.le_refl _)).mpr ⟨h1, h2, e⟩
  omega
/-- so do the last ones of what goes and of what comes -/
theorem last_differ (a b : List Nat) (h1 : goneOf a b ≠ []) (h2 : comeOf a b ≠ []) : (goneOf a b).getLast? ≠ (comeOf a b).getLast? := by
  have g1 := gone_len a b
  have g2 := come_len a b
  have p1 : 0 < (goneOf a b).length := List.length_pos_iff.mpr h1
  have p2 : 0 < (comeOf a b).length := List.length_pos_iff.mpr h2
  obtain ⟨p, s, e1, e2, e3, e4⟩ := change_parts a b
  intro e
  have hk : lcs a b ≤ tailOf a b := by
    unfold tailOf atOf at *
    omega
  have hl := (lcp_lt a.reverse b.reverse (lcs a b) (Nat.le_refl _)).mpr
  rw [List.length_reverse, List.length_reverse] at hl
  have hz : tailOf a b = lcs a b := Nat.le_antisymm (Nat.min_le_right _ _) hk
  have idx : ∀ (g : List Nat), 0 < g.length → (p ++ g ++ s).reverse[lcs a b]? = g.getLast? := fun g hg => by
    rw [List.reverse_append, List.getElem?_append_right (by rw [List.length_reverse]; omega), List.length_reverse, show lcs a b - s.length = 0 by omega, List.reverse_append, List.getElem?_append_left (by rw [List.length_reverse]; omega), List.getElem?_reverse (by omega), List.getLast?_eq_getElem?, Nat.sub_zero]
  have := hl ⟨by omega, by omega, by
    have i1 := idx _ p1
    have i2 := idx _ p2
    rw [← e1] at i1
    rw [← e2] at i2
    rw [i1, i2]
    exact e⟩
  unfold lcs at *
  omega
end Pk
open PySem PySem.Spec L2 Pk
open C8 (tCut pss_cut)

local macro_rules | `(tactic| walk_at "hp") => `(tactic| (first
  | assumption
  | (exact SqL.of (by assumption)) | (exact SqT.of (by assumption)) | (exact Rd.of (by assumption))
  | (exact sm_of (by assumption) (by assumption))
  | ((with_reducible apply sm_of); assumption; walk_at "hp")
  | ((with_reducible apply Same.seq); assumption; walk_at "hp")
  | ((with_reducible apply sm_tup); assumption; walk_at "hp")
  | ((with_reducible apply sm_rd); assumption; walk_at "hp"))) 
local macro_rules | `(tactic| walk_at "hq") => `(tactic| (first | walk_at "hp" | (solve_by_elim (maxDepth := 8) [Same.seq, sm_of, sm_tup, sm_rd, SqL.of, SqT.of, Rd.of])))
local macro_rules | `(tactic| walk_at "rv") => `(tactic| (with_reducible (first
  | refine r_v0 ?_ | refine r_v1 ?_ | refine r_v2 ?_ | refine r_v3 ?_ | refine r_v4 ?_ | refine r_v5 ?_ | refine r_v6 ?_ | refine r_v7 ?_ | refine r_v8 ?_ | refine r_v9 ?_ | refine r_v10 ?_ | refine r_v11 ?_ | refine r_v12 ?_ | refine r_v13 ?_ | refine r_n0 ?_ | refine r_n1 ?_ | refine r_n2 ?_ | refine r_n3 ?_ | refine r_n4 ?_ | refine r_n5 ?_ | refine r_n6 ?_ | refine r_n7 ?_ | refine r_n8 ?_ | refine r_n9 ?_ | refine r_n10 ?_ | refine r_n11 ?_ | refine r_n12 ?_ | refine r_n13 ?_)))
local macro_rules | `(tactic| walk_at "x1") => `(tactic| fail)
local macro_rules | `(tactic| walk_at "r1") => `(tactic| (first
  | (with_reducible (first | refine r_seq ?_ | refine r_asg ?_ | refine r_ret ?_ | refine r_ifS ?_ | refine r_next ?_ | refine r_drop ?_ | refine r_brk ?_ | refine r_raise ?_ | refine r_test ?_ | refine r_B ?_ | refine r_and ?_ | refine r_or ?_ | refine r_not ?_ | refine r_isN ?_ | refine r_notN ?_ | refine r_c ?_ | refine r_op ?_ | refine r_un ?_ | refine r_cons ?_ | refine r_nil ?_ | refine r_call ?_ | refine r_cb ?_ | refine r_andV ?_ | refine r_orV ?_ | refine r_notV ?_ | refine r_ifE ?_ | refine r_sl ?_ | refine r_noPart ?_ | refine r_part ?_ | refine r_tup ?_ | refine r_lst ?_ | refine r_bm ?_ | refine r_bm0 ?_ | refine r_dget ?_ | refine r_din ?_ | refine r_dnotin ?_ | refine r_dput ?_ | refine r_fld ?_ | refine r_meth ?_ | refine r_yes ?_ | refine r_lc ?_ | refine r_for ?_ | refine r_rng1 ?_ | refine r_rng2 ?_ | refine r_iList ?_ | refine r_iKeys ?_ | refine r_dnew ?_))
  | walk_at "rv"
  | (with_reducible (first | refine r_add ?_ | refine r_sub ?_ | refine r_neg ?_ | refine r_lt ?_ | refine r_le ?_ | refine r_gt ?_ | refine r_ge ?_ | refine r_eqI ?_ | refine r_eqS ?_ | refine r_neI ?_ | refine r_neS ?_ | refine r_max2 ?_ | refine r_min2 ?_ | refine r_blP ?_ | refine r_int ?_ | refine r_tyS ?_))
  | ((with_reducible (first | refine r_div ?_ ?_ | refine r_mod ?_ ?_ | refine r_pow ?_ ?_ | refine r_mulL ?_ ?_ | refine r_mulR ?_ ?_)); first | decide | omega)
  | ((with_reducible (first | refine r_slS ?_ ?_ | refine r_lenS ?_ ?_ | refine r_addS ?_ ?_)); (first | (exact sz (by omega)) | (exact sz (by simp only [List.length_append]; omega))))
  | ((with_reducible (first | refine r_mkT ?_ ?_ | refine r_mkL ?_ ?_)); exact sz (by simp))
  | (with_reducible (first | refine iteT ?_ | refine iteF ?_ | refine r_nT ?_ | refine r_nF ?_))
  | ((with_reducible refine r_rng1E ?_ ?_); omega)
  | ((with_reducible refine r_rng2E ?_ ?_); omega)
  | ((with_reducible apply r_iListE); (walk_at "hp"))
  | ((with_reducible apply r_tyL); (walk_at "hp"))
  | ((with_reducible apply r_ixT); (walk_at "hp"); exact rfl)
  | ((with_reducible apply r_ixL); (walk_at "hp"); exact rfl)
  | (with_reducible (first | refine r_is_int_int ?_ | refine r_is_int_bool ?_ | refine r_is_int_str ?_ | refine r_is_int_tuple ?_ | refine r_is_int_list ?_ | refine r_is_int_dict ?_ | refine r_is_str_int ?_ | refine r_is_str_bool ?_ | refine r_is_str_str ?_ | refine r_is_str_tuple ?_ | refine r_is_str_list ?_ | refine r_is_str_dict ?_ | refine r_is_bl_int ?_ | refine r_is_bl_bool ?_ | refine r_is_bl_str ?_ | refine r_is_bl_tuple ?_ | refine r_is_bl_list ?_ | refine r_is_bl_dict ?_ | refine r_is_non_int ?_ | refine r_is_non_bool ?_ | refine r_is_non_str ?_ | refine r_is_non_tuple ?_ | refine r_is_non_list ?_ | refine r_is_non_dict ?_))
  | ((with_reducible apply r_is_lst_int); (walk_at "hp"))
  | ((with_reducible apply r_is_lst_str); (walk_at "hp"))
  | ((with_reducible apply r_is_lst_tuple); (walk_at "hp"))
  | ((with_reducible apply r_is_lst_list); (walk_at "hp"))
  | ((with_reducible apply r_is_lst_dict); (walk_at "hp"))
  | ((with_reducible apply r_is_tup_int); (walk_at "hp"))
  | ((with_reducible apply r_is_tup_str); (walk_at "hp"))
  | ((with_reducible apply r_is_tup_tuple); (walk_at "hp"))
  | ((with_reducible apply r_is_tup_list); (walk_at "hp"))
  | ((with_reducible apply r_is_tup_dict); (walk_at "hp"))
  | ((with_reducible apply r_is_dK_int); (walk_at "hp"))
  | ((with_reducible apply r_is_dK_str); (walk_at "hp"))
  | ((with_reducible apply r_is_dK_tuple); (walk_at "hp"))
  | ((with_reducible apply r_is_dK_list); (walk_at "hp"))
  | ((with_reducible apply r_is_dK_dict); (walk_at "hp"))
  | ((with_reducible apply r_lenL); (walk_at "hp"))
  | ((with_reducible apply r_lenT); (walk_at "hp"))
  | ((with_reducible apply r_lenD); (walk_at "hp"))
  | walk_at "x1"
  ))
local macro_rules | `(tactic| walk_at "rd") => `(tactic| (repeat' (walk_at "r1")))
namespace Pk
def sp_alike_ahead (A : Ad) : Sp := fun vs H Q E => ∃ a b : List Nat, vs = [.str (S a), .str (S b)] ∧ a.length ≤ 1000000 ∧ b.length ≤ 1000000 ∧ Q (.int (lcp a b)) H
def t_alike_ahead (A : Ad) (E : XK) : TS := tSeq (tAsg (tC (.int 0)) (gName 2)) (tSeq (tWhile (tAnd (tTest (tOp (rLt) (tVar 2) (tCB (rMin2) (tCons (tCB (rLenG A.K) (tCons (tVar 0) (tNil))) (tCons (tCB (rLenG A.K) (tCons (tVar 1) (tNil))) (tNil)))))) (tTest (tOp (rEqG A.K) (tOp (rIx A.K) (tVar 0) (tVar 2)) (tOp (rIx A.K) (tVar 1) (tVar 2))))) (tAsg (tOp rAdd3 (tVar 2) (tC (.int 1))) (gName 2))) (tRet (tVar 2)))
theorem p_alike_ahead (A : Ad) {vs : List V} {H : Hp} {Q : VK} {E : XK} (h : sp_alike_ahead A vs H Q E) : t_alike_ahead A E { nx := fun _ H2 => Q .non H2, rt := Q } (start ["one", "other", "many"] vs) H := by
  obtain ⟨a, b, rfl, la, lb, h1⟩ := h
  change t_alike_ahead A E _ [_, _, none] _
  unfold t_alike_ahead
  walk_at "rd"
  have l1 := lcp_le1 a b
  have l2 := lcp_le2 a b
  refine r_while (fun σ H2 => ∃ k : Nat, σ = [some (.str (S a)), some (.str (S b)), some (.int k)] ∧ k ≤ lcp a b ∧ H2 = H) (fun σ H2 => match σ with
      | [_, _, some (.int k)] => (lcp a b : Int).toNat - k.toNat
      | _ => 0) ⟨0, rfl, Nat.zero_le _, rfl⟩ ?_
  rintro σ H2 ⟨k, rfl, hk, rfl⟩
  have hs := lcp_lt a b k hk
  walk_at "rd"
  refine r_dec (fun c => ?_) fun c => ?_
  · walk_at "rd"
    have ka : k < a.length := by omega
    have kb : k < b.length := by omega
    refine r_ixS (sz (by omega)) (atI_nat (List.getElem?_eq_getElem ka)) ?_
    walk_at "rd"
    refine r_ixS (sz (by omega)) (atI_nat (List.getElem?_eq_getElem kb)) ?_
    walk_at "rd"
    rw [List.getElem?_eq_getElem ka, List.getElem?_eq_getElem kb] at hs
    refine r_dec (fun d => ?_) fun d => ?_
    · have hl : k < lcp a b := hs.mpr ⟨ka, kb, by rw [(List.cons.inj d).1]⟩
      refine wh_body ?_
      walk_at "rd"
      refine ⟨⟨k + 1, rfl, hl, rfl⟩, ?_⟩
      show (lcp a b : Int).toNat - ((k : Int) + 1).toNat < (lcp a b : Int).toNat - (k : Int).toNat
      omega
    · walk_at "rd"
      have : k = lcp a b := by
        refine Nat.le_antisymm hk (Nat.le_of_not_lt fun z => d ?_)
        rw [Option.some.inj (hs.mp z).2.2]
      rw [this]
      exact h1
  · walk_at "rd"
    have : k = lcp a b := by omega
    rw [this]
    exact h1
def sp_alike_behind (A : Ad) : Sp := fun vs H Q E => ∃ (a b : List Nat) (m : Nat), vs = [.str (S a), .str (S b), .int m] ∧ a.length ≤ 1000000 ∧ b.length ≤ 1000000 ∧ m ≤ a.length ∧ m ≤ b.length ∧ Q (.int (min m (lcs a b) : Nat)) H
def t_alike_behind (A : Ad) (E : XK) : TS := tSeq (tAsg (tC (.int 0)) (gName 3)) (tSeq (tWhile (tAnd (tTest (tOp (rLt) (tVar 3) (tVar 2))) (tTest (tOp (rEqG A.K) (tOp (rIx A.K) (tVar 0) (tOp rSub (tOp rSub (tCB (rLenG A.K) (tCons (tVar 0) (tNil))) (tC (.int 1))) (tVar 3))) (tOp (rIx A.K) (tVar 1) (tOp rSub (tOp rSub (tCB (rLenG A.K) (tCons (tVar 1) (tNil))) (tC (.int 1))) (tVar 3)))))) (tAsg (tOp rAdd3 (tVar 3) (tC (.int 1))) (gName 3))) (tRet (tVar 3)))
theorem p_alike_behind (A : Ad) {vs : List V} {H : Hp} {Q : VK} {E : XK} (h : sp_alike_behind A vs H Q E) : t_alike_behind A E { nx := fun _ H2 => Q .non H2, rt := Q } (start ["one", "other", "most", "many"] vs) H := by
  obtain ⟨a, b, m, rfl, la, lb, ma, mb, h1⟩ := h
  change t_alike_behind A E _ [_, _, _, none] _
  unfold t_alike_behind
  walk_at "rd"
  refine r_while (fun σ H2 => ∃ k : Nat, σ = [some (.str (S a)), some (.str (S b)), some (.int m), some (.int k)] ∧ k ≤ min m (lcs a b) ∧ H2 = H) (fun σ H2 => match σ with
      | [_, _, _, some (.int k)] => m - k.toNat
      | _ => 0) ⟨0, rfl, Nat.zero_le _, rfl⟩ ?_
  rintro σ H2 ⟨k, rfl, hk, rfl⟩
  have hs := lcp_lt a.reverse b.reverse k (by unfold lcs at hk; omega)
  rw [List.length_reverse, List.length_reverse] at hs
  walk_at "rd"
  refine r_dec (fun c => ?_) fun c => ?_
  · walk_at "rd"
    have ka : a.length - 1 - k < a.length := by omega
    have kb : b.length - 1 - k < b.length := by omega
    rw [show ((a.length : Int) - 1 - k) = ((a.length - 1 - k : Nat) : Int) by omega]
    refine r_ixS (sz (by omega)) (atI_nat (List.getElem?_eq_getElem ka)) ?_
    walk_at "rd"
    rw [show ((b.length : Int) - 1 - k) = ((b.length - 1 - k : Nat) : Int) by omega]
    refine r_ixS (sz (by omega)) (atI_nat (List.getElem?_eq_getElem kb)) ?_
    walk_at "rd"
    rw [List.getElem?_reverse (by omega), List.getElem?_reverse (by omega), List.getElem?_eq_getElem ka, List.getElem?_eq_getElem kb] at hs
    unfold lcs at *
    refine r_dec (fun d => ?_) fun d => ?_
    · have hl := hs.mpr ⟨by omega, by omega, by rw [(List.cons.inj d).1]⟩
      refine wh_body ?_
      walk_at "rd"
      refine ⟨⟨k + 1, rfl, by omega, rfl⟩, ?_⟩
      show m - ((k : Int) + 1).toNat < m - (k : Int).toNat
      omega
    · walk_at "rd"
      have : k = min m (lcp a.reverse b.reverse) := by
        refine Nat.le_antisymm hk (Nat.le_of_not_lt fun z => d ?_)
        rw [Option.some.inj (hs.mp (by omega)).2.2]
      rw [this]
      exact h1
  · walk_at "rd"
    have : k = min m (lcs a b) := by omega
    rw [this]
    exact h1
def sp_change_of (A : Ad) : Sp := fun vs H Q E => ∃ a b : List Nat, vs = [.str (S a), .str (S b)] ∧ a.length ≤ 1000000 ∧ b.length ≤ 1000000 ∧ Nw H (.tup [.int (atOf a b), .str (S (goneOf a b)), .str (S (comeOf a b))]) Q
def t_change_of (A : Ad) (E : XK) : TS := tSeq (tAsg (tCall (sp_alike_ahead A) [] E0 (tCons (tVar 0) (tCons (tVar 1) (tNil)))) (gName 2)) (tSeq (tAsg (tCall (sp_alike_behind A) [] E0 (tCons (tVar 0) (tCons (tVar 1) (tCons (tOp rSub (tCB (rMin2) (tCons (tCB (rLenG A.K) (tCons (tVar 0) (tNil))) (tCons (tCB (rLenG A.K) (tCons (tVar 1) (tNil))) (tNil)))) (tVar 2)) (tNil))))) (gName 3)) (tRet (tTup (tCons (tVar 2) (tCons (tSl (rSl2 A.K) (tVar 0) (tPart (tVar 2)) (tPart (tOp rSub (tCB (rLenG A.K) (tCons (tVar 0) (tNil))) (tVar 3)))) (tCons (tSl (rSl2 A.K) (tVar 1) (tPart (tVar 2)) (tPart (tOp rSub (tCB (rLenG A.K) (tCons (tVar 1) (tNil))) (tVar 3)))) (tNil)))))))
theorem p_change_of (A : Ad) {vs : List V} {H : Hp} {Q : VK} {E : XK} (h : sp_change_of A vs H Q E) : t_change_of A E { nx := fun _ H2 => Q .non H2, rt := Q } (start ["old", "new", "at", "many"] vs) H := by
  obtain ⟨a, b, rfl, la, lb, h1⟩ := h
  change t_change_of A E _ [_, _, none, none] _
  unfold t_change_of
  walk_at "rd"
  refine ⟨a, b, rfl, la, lb, ?_⟩
  walk_at "rd"
  have l1 := lcp_le1 a b
  have l2 := lcp_le2 a b
  rw [show (min (a.length : Int) b.length - (lcp a b : Nat)) = ((min a.length b.length - lcp a b : Nat) : Int) by omega]
  refine ⟨a, b, _, rfl, la, lb, by omega, by omega, ?_⟩
  walk_at "rd"
  have h := tail_le a b
  have e1 : cutL a (some ((lcp a b : Nat) : Int)) (some ((a.length : Int) - (min (min a.length b.length - lcp a b) (lcs a b) : Nat))) = goneOf a b := by
    rw [show ((a.length : Int) - (min (min a.length b.length - lcp a b) (lcs a b) : Nat)) = ((a.length - tailOf a b : Nat) : Int) by unfold tailOf; omega, cutL_nn]
    rfl
  have e2 : cutL b (some ((lcp a b : Nat) : Int)) (some ((b.length : Int) - (min (min a.length b.length - lcp a b) (lcs a b) : Nat))) = comeOf a b := by
    rw [show ((b.length : Int) - (min (min a.length b.length - lcp a b) (lcs a b) : Nat)) = ((b.length - tailOf a b : Nat) : Int) by unfold tailOf; omega, cutL_nn]
    rfl
  rw [e1, e2]
  exact h1
def sp_l_cell_at (A : Ad) : Sp := fun vs H Q E => ∃ (a : Addr) (ns : List Int) (k : Int), vs = [.ref a, .int k] ∧ 0 ≤ k ∧ SqL A.K H a (ns.map V.int) ∧ ns.length ≤ 1000 ∧ Q (.int (cellAt ns k)) H
theorem u_cell_at {A : Ad} {a : Addr} {ns : List Int} {k : Int} {H : Hp} {Q : VK} {E : XK} (hk : 0 ≤ k) (hS : SqL A.K H a (ns.map V.int)) (hl : ns.length ≤ 63) (h : Q (.int (cellAt ns k)) H) : sp_l_cell_at A [.ref a, .int k] H Q E :=
  ⟨a, ns, k, rfl, hk, hS, by omega, h⟩
local macro_rules | `(tactic| walk_at "x1") => `(tactic| ((with_reducible apply u_cell_at); (first | decide | omega); (walk_at "hp"); assumption))
def t_l_cell_at (A : Ad) (E : XK) : TS := tSeq (tIfS (tTest (tOp (rLt) (tVar 1) (tCB (rLenG A.K) (tCons (tVar 0) (tNil))))) (tRet (tOp (rIx A.K) (tVar 0) (tVar 1))) (tNext)) (tRet (tC (.int 0)))
theorem p_l_cell_at (A : Ad) {vs : List V} {H : Hp} {Q : VK} {E : XK} (h : sp_l_cell_at A vs H Q E) : t_l_cell_at A E { nx := fun _ H2 => Q .non H2, rt := Q } (start ["_law_script", "_law_k"] vs) H := by
  obtain ⟨a, ns, k, rfl, hk, hS, hl, h1⟩ := h
  change t_l_cell_at A E _ [_, _] _
  unfold t_l_cell_at
  walk_at "rd"
  rw [List.length_map]
  refine r_dec (fun c => ?_) (fun c => ?_)
  · walk_at "rd"
    obtain ⟨j, rfl⟩ : ∃ j : Nat, k = j := ⟨k.toNat, by omega⟩
    have hj : j < ns.length := by omega
    refine r_ixL hS (v := .int (cellAt ns j)) (atI_nat ?_) h1
    rw [List.getElem?_map, List.getElem?_eq_getElem hj]
    unfold cellAt
    simp [List.getD, hj]
  · walk_at "rd"
    have e : cellAt ns k = 0 := by
      unfold cellAt
      simp [List.getD, List.getElem?_eq_none (show ns.length ≤ k.toNat by omega)]
    rw [e] at h1
    exact h1
def sp_l_whole (A : Ad) : Sp := fun vs H Q E => ∃ i, vs = [.int i] ∧ Q (.bl true) H
def t_l_whole (A : Ad) (E : XK) : TS := tRet (tAndV (tCB (rIsi A.K) (tCons (tVar 0) (tCons (tC (.ty "int")) (tNil)))) (tNotV (tCB (rIsi A.K) (tCons (tVar 0) (tCons (tC (.ty "bool")) (tNil))))))
theorem p_l_whole (A : Ad) {vs : List V} {H : Hp} {Q : VK} {E : XK} (h : sp_l_whole A vs H Q E) : t_l_whole A E { nx := fun _ H2 => Q .non H2, rt := Q } (start ["_law_found"] vs) H := by
  obtain ⟨i, rfl, h1⟩ := h
  change t_l_whole A E _ [_] _
  unfold t_l_whole
  walk_at "rd"
  exact h1
def sp_l_sign_by (A : Ad) : Sp := fun vs H Q E => ∃ i, vs = [.int i] ∧ ∀ x, x < 1114112 → Q (.str (S [x])) H
theorem u_sign_by {A : Ad} {i : Int} {H : Hp} {Q : VK} {E : XK} (h : ∀ x, x < 1114112 → Q (.str (S [x])) H) : sp_l_sign_by A [.int i] H Q E := ⟨i, rfl, h⟩
def t_l_sign_by (A : Ad) (E : XK) : TS := tSeq (tAsg (tC (.str " !\"#$&'()*+,-./0123456789:;<=>?@ABCDEFGHIJKLMNOPQRSTUVWXYZ[\\]^_`")) (gName 1)) (tSeq (tAsg (tOp rAdd3 (tVar 1) (tC (.str "abcdefghijklmnopqrstuvwxyz{|}~\n\t"))) (gName 1)) (tRet (tOp (rIx A.K) (tVar 1) (tOp rMod (tVar 0) (tC (.int 96))))))
theorem p_l_sign_by (A : Ad) {vs : List V} {H : Hp} {Q : VK} {E : XK} (h : sp_l_sign_by A vs H Q E) : t_l_sign_by A E { nx := fun _ H2 => Q .non H2, rt := Q } (start ["_law_cell", "_law_some"] vs) H := by
  obtain ⟨i, rfl, h1⟩ := h
  change t_l_sign_by A E _ [_, none] _
  unfold t_l_sign_by
  obtain ⟨a, ea, la, oa⟩ := lit " !\"#$&'()*+,-./0123456789:;<=>?@ABCDEFGHIJKLMNOPQRSTUVWXYZ[\\]^_`" 64 (by decide +kernel) (by decide +kernel)
  obtain ⟨b, eb, lb, ob⟩ := lit "abcdefghijklmnopqrstuvwxyz{|}~\n\t" 32 (by decide +kernel) (by decide +kernel)
  rw [ea, eb]
  walk_at "rd"
  obtain ⟨j, e⟩ : ∃ j : Nat, i % 96 = j := ⟨(i % 96).toNat, by omega⟩
  rw [e]
  have hj : j < (a ++ b).length := by rw [List.length_append]; omega
  exact r_ixS (sz (by rw [List.length_append]; omega)) (atI_nat (List.getElem?_eq_getElem hj)) (h1 _ ((List.mem_append.mp (List.getElem_mem hj)).elim (oa _) (ob _)))
def sp_l_text_by (A : Ad) : Sp := fun vs H Q E => ∃ c n, vs = [.int c, .int n] ∧ 0 ≤ n ∧ n ≤ 100000 ∧ ∀ l H', l.length = n.toNat → Ok l → Same H H' → Q (.str (S l)) H'
theorem u_text_by {A : Ad} {c n : Int} {H : Hp} {Q : VK} {E : XK} (h0 : 0 ≤ n) (h1 : n ≤ 100000) (h : ∀ l H', l.length = n.toNat → Ok l → Same H H' → Q (.str (S l)) H') : sp_l_text_by A [.int c, .int n] H Q E := ⟨c, n, rfl, h0, h1, h⟩
def t_l_text_by (A : Ad) (E : XK) : TS := tRet (tBM A.K "str" (rJoin A.K) (tC (.str "")) (tCons (tLc (iRng1 (tCons (tVar 1) (tNil))) (gName 2) (tYes) (tCall (sp_l_sign_by A) [] E0 (tCons (tOp rAdd3 (tVar 0) (tOp rMul (tC (.int 7)) (tOp rDiv (tVar 2) (tOp rAdd3 (tC (.int 1)) (tOp rMod (tVar 0) (tC (.int 3))))))) (tNil))) [2]) (tNil)))
theorem p_l_text_by (A : Ad) {vs : List V} {H : Hp} {Q : VK} {E : XK} (h : sp_l_text_by A vs H Q E) : t_l_text_by A E { nx := fun _ H2 => Q .non H2, rt := Q } (start ["_law_cell", "_law_size", "_law_k"] vs) H := by
  obtain ⟨c, n, rfl, h0, hn, h1⟩ := h
  change t_l_text_by A E _ [_, _, none] _
  unfold t_l_text_by
  walk_at "rd"
  refine lc_go (walk_rng0 (n := n.toNat)) (by omega) (fun D i acc H2 => H D = none ∧ Same H H2 ∧ ∃ ls : List (List Nat), acc = ls.map (fun l => V.str (S l)) ∧ (∀ l ∈ ls, l.length = 1 ∧ Ok l) ∧ ls.length = i)
    (fun D H2 hD s2 _ => ⟨hD, s2, [], rfl, by simp, rfl⟩) (fun _ _ _ _ _ _ => trivial) ?_ ?_
  · rintro D i x acc H1 H' hi ha e ⟨hD, s1, ls, rfl, hl, rfl⟩ ⟨rfl, rfl⟩
    walk_at "rd"
    refine ⟨_, rfl, fun z hz => ?_⟩
    refine lc_end ha (by omega) e fun H5 c5 => ⟨hD, sm_chg s1 hD c5, ls ++ [[z]], by simp, ?_, by simp⟩
    intro l hl'
    rcases List.mem_append.mp hl' with h | h
    · exact hl l h
    · rw [List.mem_singleton.mp h]; exact ⟨rfl, fun c hc => by rw [List.mem_singleton.mp hc]; exact hz⟩
  · rintro D acc H1 ⟨hD, s1, ls, rfl, hl, hn⟩ e
    walk_at "rd"
    exact r_join1 hl e (by omega) fun r l1 o1 => h1 r H1 (by rw [l1, hn]) o1 s1
def sp_l_next_text (A : Ad) : Sp := fun vs H Q E => ∃ (z : List Nat) (c : Int), vs = [.str (S z), .int c] ∧ z.length ≤ 100000 ∧ Ok z ∧ ∀ l H', Same H H' → l.length ≤ max (z.length + 2) 8 → Ok l → Q (.str (S l)) H'
theorem u_next_text {A : Ad} {z : List Nat} {c : Int} {H : Hp} {Q : VK} {E : XK} (hl : z.length ≤ 100000) (ho : Ok z) (h : ∀ l H', Same H H' → l.length ≤ max (z.length + 2) 8 → Ok l → Q (.str (S l)) H') : sp_l_next_text A [.str (S z), .int c] H Q E := ⟨z, c, rfl, hl, ho, h⟩
def t_l_next_text (A : Ad) (E : XK) : TS := tSeq (tAsg (tOp rMod (tVar 1) (tC (.int 5))) (gName 2)) (tSeq (tAsg (tOp rMod (tOp rDiv (tVar 1) (tC (.int 5))) (tOp rAdd3 (tCB (rLenG A.K) (tCons (tVar 0) (tNil))) (tC (.int 1)))) (gName 3)) (tSeq (tAsg (tOp rDiv (tOp rDiv (tVar 1) (tC (.int 5))) (tOp rAdd3 (tCB (rLenG A.K) (tCons (tVar 0) (tNil))) (tC (.int 1)))) (gName 4)) (tSeq (tIfS (tTest (tOp (rEqG A.K) (tVar 2) (tC (.int 0)))) (tRet (tVar 0)) (tNext)) (tSeq (tIfS (tTest (tOp (rEqG A.K) (tVar 2) (tC (.int 1)))) (tRet (tOp rAdd3 (tOp rAdd3 (tOp rAdd3 (tSl (rSl2 A.K) (tVar 0) (tNoPart) (tPart (tVar 3))) (tCall (sp_l_sign_by A) [] E0 (tCons (tVar 4) (tNil)))) (tCall (sp_l_sign_by A) [] E0 (tCons (tOp rDiv (tVar 4) (tC (.int 96))) (tNil)))) (tSl (rSl2 A.K) (tVar 0) (tPart (tVar 3)) (tNoPart)))) (tNext)) (tSeq (tIfS (tTest (tOp (rEqG A.K) (tVar 2) (tC (.int 2)))) (tRet (tOp rAdd3 (tSl (rSl2 A.K) (tVar 0) (tNoPart) (tPart (tVar 3))) (tSl (rSl2 A.K) (tVar 0) (tPart (tOp rAdd3 (tOp rAdd3 (tVar 3) (tC (.int 1))) (tOp rMod (tVar 4) (tC (.int 3))))) (tNoPart)))) (tNext)) (tSeq (tIfS (tTest (tOp (rEqG A.K) (tVar 2) (tC (.int 3)))) (tRet (tOp rAdd3 (tOp rAdd3 (tSl (rSl2 A.K) (tVar 0) (tNoPart) (tPart (tVar 3))) (tCall (sp_l_sign_by A) [] E0 (tCons (tVar 4) (tNil)))) (tSl (rSl2 A.K) (tVar 0) (tPart (tOp rAdd3 (tVar 3) (tC (.int 1)))) (tNoPart)))) (tNext)) (tRet (tCall (sp_l_text_by A) [] E0 (tCons (tVar 4) (tCons (tOp rMod (tVar 4) (tC (.int 9))) (tNil)))))))))))
theorem p_l_next_text (A : Ad) {vs : List V} {H : Hp} {Q : VK} {E : XK} (h : sp_l_next_text A vs H Q E) : t_l_next_text A E { nx := fun _ H2 => Q .non H2, rt := Q } (start ["_law_old", "_law_cell", "_law_way", "_law_at", "_law_left"] vs) H := by
  obtain ⟨z, c, rfl, hl, ho, h1⟩ := h
  change t_l_next_text A E _ [_, _, none, none, none] _
  unfold t_l_next_text
  walk_at "rd"
  obtain ⟨k, ek⟩ : ∃ k : Nat, c / 5 % ((z.length : Int) + 1) = k := ⟨(c / 5 % ((z.length : Int) + 1)).toNat, by have := Int.emod_nonneg (c / 5) (show ((z.length : Int) + 1) ≠ 0 by omega); omega⟩
  have kl : k ≤ z.length := by have := Int.emod_lt_of_pos (c / 5) (show 0 < (z.length : Int) + 1 by omega); omega
  rw [ek]
  refine r_dec (fun d => ?_) fun d => ?_
  · walk_at "rd"
    exact h1 z H (fun _ _ q => q) (by omega) ho
  walk_at "rd"
  have c1 := cutL_to z k
  have c2 := cutL_from z k
  refine r_dec (fun d => ?_) fun d => ?_
  · walk_at "rd"
    refine u_sign_by fun x hx => ?_
    rw [c1]
    walk_at "rd"
    refine r_addS (sz (by rw [List.length_take]; show min k z.length + 1 ≤ _; omega)) ?_
    walk_at "rd"
    refine u_sign_by fun y hy => ?_
    refine r_addS (sz (by rw [List.length_append, List.length_take]; show min k z.length + 1 + 1 ≤ _; omega)) ?_
    walk_at "rd"
    rw [c2]
    refine r_addS (sz (by simp only [List.length_append, List.length_take, List.length_drop, List.length_cons, List.length_nil]; omega)) ?_
    refine h1 _ H (fun _ _ q => q) (by simp only [List.length_append, List.length_take, List.length_drop, List.length_cons, List.length_nil]; omega) ?_
    intro w hw
    simp only [List.mem_append, List.mem_singleton] at hw
    rcases hw with ((hw | rfl) | rfl) | hw
    · exact ho w (List.mem_of_mem_take hw)
    · exact hx
    · exact hy
    · exact ho w (List.mem_of_mem_drop hw)
  walk_at "rd"
  refine r_dec (fun d => ?_) fun d => ?_
  · walk_at "rd"
    obtain ⟨j, ej⟩ : ∃ j : Nat, (k : Int) + 1 + c / 5 / ((z.length : Int) + 1) % 3 = j := ⟨((k : Int) + 1 + c / 5 / ((z.length : Int) + 1) % 3).toNat, by omega⟩
    rw [c1, ej, cutL_from]
    refine r_addS (sz (by simp only [List.length_append, List.length_take, List.length_drop]; omega)) ?_
    refine h1 _ H (fun _ _ q => q) (by simp only [List.length_append, List.length_take, List.length_drop]; omega) ?_
    intro w hw
    rcases List.mem_append.mp hw with hw | hw
    · exact ho w (List.mem_of_mem_take hw)
    · exact ho w (List.mem_of_mem_drop hw)
  walk_at "rd"
  refine r_dec (fun d => ?_) fun d => ?_
  · walk_at "rd"
    refine u_sign_by fun x hx => ?_
    rw [c1]
    walk_at "rd"
    refine r_addS (sz (by rw [List.length_take]; show min k z.length + 1 ≤ _; omega)) ?_
    walk_at "rd"
    rw [show ((k : Int) + 1) = ((k + 1 : Nat) : Int) by omega, cutL_from]
    refine r_addS (sz (by simp only [List.length_append, List.length_take, List.length_drop, List.length_cons, List.length_nil]; omega)) ?_
    refine h1 _ H (fun _ _ q => q) (by simp only [List.length_append, List.length_take, List.length_drop, List.length_cons, List.length_nil]; omega) ?_
    intro w hw
    simp only [List.mem_append, List.mem_singleton] at hw
    rcases hw with (hw | rfl) | hw
    · exact ho w (List.mem_of_mem_take hw)
    · exact hx
    · exact ho w (List.mem_of_mem_drop hw)
  walk_at "rd"
  exact u_text_by (by omega) (by omega) fun l H' hl' ol s => h1 l H' s (by omega) ol
def sp_l_change (A : Ad) : Sp := fun vs H Q E => ∃ t i a b, vs = [.ref t] ∧ H t = some (.tup [.int i, .str (S a), .str (S b)]) ∧ Q (.bl true) H
theorem u_change {A : Ad} {t : Addr} {i : Int} {a b : List Nat} {H : Hp} {Q : VK} {E : XK} (hT : H t = some (.tup [.int i, .str (S a), .str (S b)])) (h : Q (.bl true) H) : sp_l_change A [.ref t] H Q E := ⟨t, i, a, b, rfl, hT, h⟩
def t_l_change (A : Ad) (E : XK) : TS := tSeq (tIfS (tOr (tNot (tB (tCB (rIsi A.K) (tCons (tVar 0) (tCons (tC (.ty "tuple")) (tNil)))))) (tTest (tOp (rNeG A.K) (tCB (rLenG A.K) (tCons (tVar 0) (tNil))) (tC (.int 3))))) (tRet (tC (.bl false))) (tNext)) (tRet (tAndV (tCall (sp_l_whole A) [] E0 (tCons (tOp (rIx A.K) (tVar 0) (tC (.int 0))) (tNil))) (tAndV (tCB (rIsi A.K) (tCons (tOp (rIx A.K) (tVar 0) (tC (.int 1))) (tCons (tC (.ty "str")) (tNil)))) (tCB (rIsi A.K) (tCons (tOp (rIx A.K) (tVar 0) (tC (.int 2))) (tCons (tC (.ty "str")) (tNil)))))))
theorem p_l_change (A : Ad) {vs : List V} {H : Hp} {Q : VK} {E : XK} (h : sp_l_change A vs H Q E) : t_l_change A E { nx := fun _ H2 => Q .non H2, rt := Q } (start ["_law_found"] vs) H := by
  obtain ⟨t, i, a, b, rfl, hT, h1⟩ := h
  change t_l_change A E _ [_] _
  unfold t_l_change
  walk_at "rd"
  refine r_ndec (fun c => absurd rfl c) (fun c => ?_)
  walk_at "rd"
  refine ⟨_, rfl, ?_⟩
  walk_at "rd"
  exact h1
def sp_l_by_turns (A : Ad) : Sp := fun vs H Q E => ∃ c n, vs = [.int c, .int n] ∧ 0 ≤ n ∧ n ≤ 100000 ∧ ∀ l H', l.length = n.toNat → Ok l → Same H H' → Q (.str (S l)) H'
theorem u_by_turns {A : Ad} {c n : Int} {H : Hp} {Q : VK} {E : XK} (h0 : 0 ≤ n) (h1 : n ≤ 100000) (h : ∀ l H', l.length = n.toNat → Ok l → Same H H' → Q (.str (S l)) H') : sp_l_by_turns A [.int c, .int n] H Q E := ⟨c, n, rfl, h0, h1, h⟩
def t_l_by_turns (A : Ad) (E : XK) : TS := tSeq (tAsg (tOp rAdd3 (tC (.int 1)) (tOp rMod (tVar 0) (tC (.int 3)))) (gName 2)) (tRet (tBM A.K "str" (rJoin A.K) (tC (.str "")) (tCons (tLc (iRng1 (tCons (tVar 1) (tNil))) (gName 3) (tYes) (tCall (sp_l_sign_by A) [] E0 (tCons (tOp rAdd3 (tOp rDiv (tVar 0) (tC (.int 3))) (tOp rMod (tVar 3) (tVar 2))) (tNil))) [3]) (tNil))))
theorem p_l_by_turns (A : Ad) {vs : List V} {H : Hp} {Q : VK} {E : XK} (h : sp_l_by_turns A vs H Q E) : t_l_by_turns A E { nx := fun _ H2 => Q .non H2, rt := Q } (start ["_law_cell", "_law_size", "_law_many", "_law_k"] vs) H := by
  obtain ⟨c, n, rfl, h0, hn, h1⟩ := h
  change t_l_by_turns A E _ [_, _, none, none] _
  unfold t_l_by_turns
  walk_at "rd"
  refine lc_go (walk_rng0 (n := n.toNat)) (by omega) (fun D i acc H2 => H D = none ∧ Same H H2 ∧ ∃ ls : List (List Nat), acc = ls.map (fun l => V.str (S l)) ∧ (∀ l ∈ ls, l.length = 1 ∧ Ok l) ∧ ls.length = i)
    (fun D H2 hD s2 _ => ⟨hD, s2, [], rfl, by simp, rfl⟩) (fun _ _ _ _ _ _ => trivial) ?_ ?_
  · rintro D i x acc H1 H' hi ha e ⟨hD, s1, ls, rfl, hl, rfl⟩ ⟨rfl, rfl⟩
    walk_at "rd"
    refine ⟨_, rfl, fun z hz => ?_⟩
    refine lc_end ha (by omega) e fun H5 c5 => ⟨hD, sm_chg s1 hD c5, ls ++ [[z]], by simp, ?_, by simp⟩
    intro l hl'
    rcases List.mem_append.mp hl' with h | h
    · exact hl l h
    · rw [List.mem_singleton.mp h]; exact ⟨rfl, fun c hc => by rw [List.mem_singleton.mp hc]; exact hz⟩
  · rintro D acc H1 ⟨hD, s1, ls, rfl, hl, hn⟩ e
    walk_at "rd"
    exact r_join1 hl e (by omega) fun r l1 o1 => h1 r H1 (by rw [l1, hn]) o1 s1
def sp_l_left_by (A : Ad) : Sp := fun vs H Q E => ∃ a b : List Nat, vs = [.str (S a), .str (S b)] ∧ a.length ≤ 100000 ∧ b.length ≤ 100000 ∧ Q (.int (mostOf a b)) H
def t_l_left_by (A : Ad) (E : XK) : TS := tSeq (tAsg (tC (.int 0)) (gName 2)) (tSeq (tAsg (tCB (rMin2) (tCons (tCB (rLenG A.K) (tCons (tVar 0) (tNil))) (tCons (tCB (rLenG A.K) (tCons (tVar 1) (tNil))) (tNil)))) (gName 3)) (tSeq (tAsg (tC (.int 0)) (gName 4)) (tSeq (tWhile (tAnd (tTest (tOp (rLe) (tVar 4) (tVar 3))) (tTest (tOp (rEqG A.K) (tSl (rSl2 A.K) (tVar 0) (tNoPart) (tPart (tVar 4))) (tSl (rSl2 A.K) (tVar 1) (tNoPart) (tPart (tVar 4)))))) (tSeq (tAsg (tC (.int 0)) (gName 5)) (tSeq (tWhile (tAnd (tTest (tOp (rLe) (tOp rAdd3 (tVar 4) (tVar 5)) (tVar 3))) (tTest (tOp (rEqG A.K) (tSl (rSl2 A.K) (tVar 0) (tPart (tOp rSub (tCB (rLenG A.K) (tCons (tVar 0) (tNil))) (tVar 5))) (tNoPart)) (tSl (rSl2 A.K) (tVar 1) (tPart (tOp rSub (tCB (rLenG A.K) (tCons (tVar 1) (tNil))) (tVar 5))) (tNoPart))))) (tSeq (tAsg (tCB (rMax2) (tCons (tVar 2) (tCons (tOp rAdd3 (tVar 4) (tVar 5)) (tNil)))) (gName 2)) (tAsg (tOp rAdd3 (tVar 5) (tC (.int 1))) (gName 5)))) (tAsg (tOp rAdd3 (tVar 4) (tC (.int 1))) (gName 4))))) (tRet (tVar 2)))))
theorem p_l_left_by (A : Ad) {vs : List V} {H : Hp} {Q : VK} {E : XK} (h : sp_l_left_by A vs H Q E) : t_l_left_by A E { nx := fun _ H2 => Q .non H2, rt := Q } (start ["_law_old", "_law_new", "_law_most", "_law_least", "_law_ahead", "_law_behind"] vs) H := by
  obtain ⟨a, b, rfl, la, lb, h1⟩ := h
  change t_l_left_by A E _ [_, _, none, none, none, none] _
  unfold t_l_left_by
  walk_at "rd"
  have l1 := lcp_le1 a b
  have l2 := lcp_le2 a b
  obtain ⟨n, en⟩ : ∃ n : Nat, min a.length b.length = n := ⟨_, rfl⟩
  rw [show (min (a.length : Int) b.length) = (n : Int) by omega]
  refine r_while (fun σ H2 => ∃ (i : Nat) (m : Int) (y : Option V), σ = [some (.str (S a)), some (.str (S b)), some (.int m), some (.int n), some (.int i), y] ∧ i ≤ lcp a b + 1 ∧ m = (mo n (lcs a b) i : Nat) ∧ H2 = H) (fun σ H2 => match σ with
      | [_, _, _, _, some (.int k), _] => lcp a b + 1 - k.toNat
      | _ => 0) ⟨0, 0, none, rfl, Nat.zero_le _, rfl, rfl⟩ ?_
  rintro σ H2 ⟨i, m, y, rfl, hi, em, rfl⟩
  have fin : ¬ i ≤ lcp a b → Q (.int m) H2 := fun z => by
    have hi2 : i = lcp a b + 1 := by omega
    rw [em, hi2, mo_succ]
    unfold mostOf at h1
    rw [en] at h1
    exact h1
  walk_at "rd"
  refine r_dec (fun c => ?_) fun c => ?_
  · walk_at "rd"
    rw [cutL_to, cutL_to]
    have ht := lcp_take a b i (by omega) (by omega)
    refine r_dec (fun d => ?_) fun d => ?_
    · have hl := ht.mp d
      refine wh_body ?_
      walk_at "rd"
      refine r_while (fun σ H3 => ∃ (j : Nat) (m : Int), σ = [some (.str (S a)), some (.str (S b)), some (.int m), some (.int n), some (.int i), some (.int j)] ∧ j ≤ min (n - i) (lcs a b) + 1 ∧ (j = 0 → m = (mo n (lcs a b) i : Nat)) ∧ (0 < j → m = (max (mo n (lcs a b) i) (i + j - 1) : Nat)) ∧ H3 = H2) (fun σ H2 => match σ with
      | [_, _, _, _, _, some (.int k)] => min (n - i) (lcs a b) + 1 - k.toNat
      | _ => 0) ⟨0, m, rfl, Nat.zero_le _, fun _ => em, fun z => by omega, rfl⟩ ?_
      rintro σ H3 ⟨j, m2, rfl, hj, em0, em1, rfl⟩
      have fin2 : ¬ j ≤ min (n - i) (lcs a b) → ∃ (i2 : Nat) (m3 : Int) (y : Option V), [some (V.str (S a)), some (.str (S b)), some (.int m2), some (.int n), some (.int ((i : Int) + 1)), some (.int j)] = [some (.str (S a)), some (.str (S b)), some (.int m3), some (.int n), some (.int i2), y] ∧ i2 ≤ lcp a b + 1 ∧ m3 = (mo n (lcs a b) i2 : Nat) ∧ H3 = H3 := fun z => by
        refine ⟨i + 1, m2, _, rfl, by omega, ?_, rfl⟩
        rw [em1 (by omega), mo_succ]
        have := mo_le n (lcs a b) i
        omega
      have out : ¬ j ≤ min (n - i) (lcs a b) → (tAsg (tOp rAdd3 (tVar 4) (tC (V.int 1))) (gName 4) : TS) ⟨fun σ' H' => (∃ (i : Nat) (m : Int) (y : Option V), σ' = [some (.str (S a)), some (.str (S b)), some (.int m), some (.int n), some (.int i), y] ∧ i ≤ lcp a b + 1 ∧ m = (mo n (lcs a b) i : Nat) ∧ H' = H3) ∧ (match σ' with
      | [_, _, _, _, some (.int k), _] => lcp a b + 1 - k.toNat
      | _ => 0) < lcp a b + 1 - (i : Int).toNat, Q, fun _ _ => False, fun _ _ => False⟩ [some (V.str (S a)), some (.str (S b)), some (.int m2), some (.int n), some (.int i), some (.int j)] H3 := fun z => by
        walk_at "rd"
        refine ⟨fin2 z, ?_⟩
        show lcp a b + 1 - ((i : Int) + 1).toNat < lcp a b + 1 - (i : Int).toNat
        omega
      walk_at "rd"
      refine r_dec (fun c2 => ?_) fun c2 => ?_
      · walk_at "rd"
        have ja : j ≤ a.length := by clear out fin2 fin; omega
        have jb : j ≤ b.length := by clear out fin2 fin; omega
        rw [show ((a.length : Int) - j) = ((a.length - j : Nat) : Int) by clear out fin2 fin; omega, show ((b.length : Int) - j) = ((b.length - j : Nat) : Int) by clear out fin2 fin; omega, cutL_from, cutL_from]
        have hd := drop_eq_iff a b j ja jb
        refine r_dec (fun d2 => ?_) fun d2 => ?_
        · have hl2 := hd.mp d2
          refine wh_body ?_
          walk_at "rd"
          refine ⟨⟨j + 1, _, rfl, by clear em0 em1 out fin2 fin; omega, (fun z => by cases z), fun _ => ?_, rfl⟩, ?_⟩
          · by_cases h0 : j = 0
            · rw [em0 h0]; clear out fin2 fin; omega
            · rw [em1 (by clear out fin2 fin; omega)]; clear out fin2 fin; omega
          · show min (n - i) (lcs a b) + 1 - ((j : Int) + 1).toNat < min (n - i) (lcs a b) + 1 - (j : Int).toNat
            clear out fin2 fin; omega
        · exact out fun z => d2 (hd.mpr (by clear out fin2 fin; omega))
      · exact out (by clear out fin2 fin; omega)
    · walk_at "rd"
      exact fin fun z => d (ht.mpr z)
  · walk_at "rd"
    exact fin (by omega)
def sp_l_leads (A : Ad) : Sp := fun vs H Q E => ∃ (a b : List Nat) (t : Addr), vs = [.str (S a), .str (S b), .ref t] ∧ a.length ≤ 100000 ∧ b.length ≤ 100000 ∧ H t = some (.tup [.int (atOf a b), .str (S (goneOf a b)), .str (S (comeOf a b))]) ∧ Q (.bl true) H
def t_l_leads (A : Ad) (E : XK) : TS := tSeq (tAsg (tOp (rIx A.K) (tVar 2) (tC (.int 0))) (gName 3)) (tSeq (tAsg (tOp (rIx A.K) (tVar 2) (tC (.int 1))) (gName 4)) (tSeq (tAsg (tOp (rIx A.K) (tVar 2) (tC (.int 2))) (gName 5)) (tSeq (tIfS (tOr (tTest (tOp (rLt) (tVar 3) (tC (.int 0)))) (tOr (tTest (tOp (rGt) (tOp rAdd3 (tVar 3) (tCB (rLenG A.K) (tCons (tVar 4) (tNil)))) (tCB (rLenG A.K) (tCons (tVar 0) (tNil))))) (tTest (tOp (rNeG A.K) (tSl (rSl2 A.K) (tVar 0) (tPart (tVar 3)) (tPart (tOp rAdd3 (tVar 3) (tCB (rLenG A.K) (tCons (tVar 4) (tNil)))))) (tVar 4))))) (tRet (tC (.bl false))) (tNext)) (tSeq (tIfS (tTest (tOp (rNeG A.K) (tOp rAdd3 (tOp rAdd3 (tSl (rSl2 A.K) (tVar 0) (tNoPart) (tPart (tVar 3))) (tVar 5)) (tSl (rSl2 A.K) (tVar 0) (tPart (tOp rAdd3 (tVar 3) (tCB (rLenG A.K) (tCons (tVar 4) (tNil))))) (tNoPart))) (tVar 1))) (tRet (tC (.bl false))) (tNext)) (tSeq (tIfS (tAnd (tTest (tOp (rLt) (tVar 3) (tCB (rMin2) (tCons (tCB (rLenG A.K) (tCons (tVar 0) (tNil))) (tCons (tCB (rLenG A.K) (tCons (tVar 1) (tNil))) (tNil)))))) (tTest (tOp (rEqG A.K) (tOp (rIx A.K) (tVar 0) (tVar 3)) (tOp (rIx A.K) (tVar 1) (tVar 3))))) (tRet (tC (.bl false))) (tNext)) (tRet (tOrV (tOp (rEqG A.K) (tVar 4) (tC (.str ""))) (tOrV (tOp (rEqG A.K) (tVar 5) (tC (.str ""))) (tOp (rNeG A.K) (tOp (rIx A.K) (tVar 4) (tUn rNeg (tC (.int 1)))) (tOp (rIx A.K) (tVar 5) (tUn rNeg (tC (.int 1)))))))))))))
theorem p_l_leads (A : Ad) {vs : List V} {H : Hp} {Q : VK} {E : XK} (h : sp_l_leads A vs H Q E) : t_l_leads A E { nx := fun _ H2 => Q .non H2, rt := Q } (start ["_law_old", "_law_new", "_law_found", "_law_at", "_law_gone", "_law_come"] vs) H := by
  obtain ⟨a, b, t, rfl, la, lb, hT, h1⟩ := h
  change t_l_leads A E _ [_, _, _, none, none, none] _
  unfold t_l_leads
  walk_at "rd"
  have g1 := gone_len a b
  have g2 := come_len a b
  obtain ⟨f, hd⟩ := change_fits a b
  refine r_dec (fun c => absurd c (by omega)) fun _ => ?_
  walk_at "rd"
  refine r_dec (fun c => absurd f.2.1 (by omega)) fun _ => ?_
  walk_at "rd"
  refine r_ndec (fun c => absurd f.2.2 c) fun _ => ?_
  walk_at "rd"
  have q1 := cutL_len a none (some ((atOf a b : Nat) : Int))
  have q2 := cutL_len a (some ((atOf a b : Int) + (goneOf a b).length)) none
  walk_at "rd"
  refine r_ndec (fun c => absurd hd c) fun _ => ?_
  walk_at "rd"
  have key : (∀ {P : Prop}, P → P) := fun p => p
  have tl : ∀ {Q' : VK}, (Q' (.bl true) H) → (tOrV (tOp (rEqG A.K) (tVar 4) (tC (V.str (Str.ofString "")))) (tOrV (tOp (rEqG A.K) (tVar 5) (tC (V.str (Str.ofString "")))) (tOp (rNeG A.K) (tOp (rIx A.K) (tVar 4) (tUn rNeg (tC (V.int 1)))) (tOp (rIx A.K) (tVar 5) (tUn rNeg (tC (V.int 1))))))) [some (V.str (S a)), some (V.str (S b)), some (V.ref t), some (V.int (atOf a b)), some (V.str (S (goneOf a b))), some (V.str (S (comeOf a b)))] H Q' := fun {Q'} q => by
    have e0 : Str.ofString "" = S [] := by decide +kernel
    rw [e0]
    walk_at "rd"
    by_cases z1 : goneOf a b = []
    · rw [decide_eq_true z1]; walk_at "rd"; exact q
    rw [decide_eq_false z1]
    walk_at "rd"
    by_cases z2 : comeOf a b = []
    · rw [decide_eq_true z2]; walk_at "rd"; exact q
    rw [decide_eq_false z2]
    walk_at "rd"
    have ld := last_differ a b z1 z2
    generalize goneOf a b = g at *
    generalize comeOf a b = k at *
    obtain ⟨g0, x, rfl⟩ : ∃ g0 x, g = g0 ++ [x] := ⟨g.dropLast, g.getLast z1, (List.dropLast_concat_getLast z1).symm⟩
    obtain ⟨k0, y, rfl⟩ : ∃ k0 y, k = k0 ++ [y] := ⟨k.dropLast, k.getLast z2, (List.dropLast_concat_getLast z2).symm⟩
    refine r_ixS (sz (by omega)) (atI_last _ _) ?_
    walk_at "rd"
    refine r_ixS (sz (by omega)) (atI_last _ _) ?_
    walk_at "rd"
    rw [List.getLast?_append, List.getLast?_append] at ld
    rw [decide_eq_false (fun z => ld (by rw [(List.cons.inj z).1]; rfl))]
    exact q
  refine r_dec (fun c => ?_) fun c => ?_
  · walk_at "rd"
    have ka : atOf a b < a.length := by omega
    have kb : atOf a b < b.length := by omega
    refine r_ixS (sz (by omega)) (atI_nat (List.getElem?_eq_getElem ka)) ?_
    walk_at "rd"
    refine r_ixS (sz (by omega)) (atI_nat (List.getElem?_eq_getElem kb)) ?_
    walk_at "rd"
    refine r_dec (fun d => ?_) fun d => ?_
    · exact absurd (by rw [List.getElem?_eq_getElem ka, List.getElem?_eq_getElem kb, (List.cons.inj d).1]) (at_differ a b ka kb)
    · with_reducible refine r_next ?_
      with_reducible refine r_ret ?_
      exact tl h1
  · with_reducible refine iteF ?_
    with_reducible refine r_next ?_
    with_reducible refine r_ret ?_
    exact tl h1
def sp_l_law (A : Ad) : Sp := fun vs H Q E => ∃ (a : Addr) (ns : List Int), vs = [.ref a] ∧ SqL A.K H a (ns.map V.int) ∧ ns.length ≤ 63 ∧ ∀ H', Q (.bl true) H'
theorem end_law {A : Ad} {H : Hp} {Q : VK} {E : XK} (a : Addr) (ns : List Int) (hl : ns.length ≤ 63) (hS : SqL A.K H a (ns.map V.int)) (hq : ∀ H', Q (.bl true) H') : sp_l_law A [.ref a] H Q E := ⟨a, ns, rfl, hS, hl, hq⟩
def t_l_law (A : Ad) (E : XK) : TS := tSeq (tAsg (tOp rMod (tCall (sp_l_cell_at A) [] E0 (tCons (tVar 0) (tCons (tC (.int 0)) (tNil)))) (tC (.int 9))) (gName 1)) (tCut (tIfS (tTest (tOp (rEqG A.K) (tOp rMod (tOp rDiv (tCall (sp_l_cell_at A) [] E0 (tCons (tVar 0) (tCons (tC (.int 0)) (tNil)))) (tC (.int 9))) (tC (.int 8))) (tC (.int 1)))) (tAsg (tOp rMod (tOp rDiv (tCall (sp_l_cell_at A) [] E0 (tCons (tVar 0) (tCons (tC (.int 0)) (tNil)))) (tC (.int 72))) (tC (.int 90))) (gName 1)) (tNext)) (tCut (tIfS (tTest (tOp (rEqG A.K) (tOp rMod (tOp rDiv (tCall (sp_l_cell_at A) [] E0 (tCons (tVar 0) (tCons (tC (.int 0)) (tNil)))) (tC (.int 9))) (tC (.int 8))) (tC (.int 2)))) (tAsg (tOp rMod (tOp rDiv (tCall (sp_l_cell_at A) [] E0 (tCons (tVar 0) (tCons (tC (.int 0)) (tNil)))) (tC (.int 72))) (tC (.int 400))) (gName 1)) (tNext)) (tSeq (tAsg (tCall (sp_l_text_by A) [] E0 (tCons (tCall (sp_l_cell_at A) [] E0 (tCons (tVar 0) (tCons (tC (.int 1)) (tNil)))) (tCons (tVar 1) (tNil)))) (gName 2)) (tCut (tIfS (tTest (tOp (rEqG A.K) (tOp rMod (tCall (sp_l_cell_at A) [] E0 (tCons (tVar 0) (tCons (tC (.int 3)) (tNil)))) (tC (.int 2))) (tC (.int 1)))) (tAsg (tCall (sp_l_by_turns A) [] E0 (tCons (tCall (sp_l_cell_at A) [] E0 (tCons (tVar 0) (tCons (tC (.int 1)) (tNil)))) (tCons (tVar 1) (tNil)))) (gName 2)) (tNext)) (tSeq (tAsg (tCall (sp_l_next_text A) [] E0 (tCons (tVar 2) (tCons (tCall (sp_l_cell_at A) [] E0 (tCons (tVar 0) (tCons (tC (.int 2)) (tNil)))) (tNil)))) (gName 3)) (tCut (tIfS (tTest (tOp (rEqG A.K) (tOp rMod (tOp rDiv (tCall (sp_l_cell_at A) [] E0 (tCons (tVar 0) (tCons (tC (.int 3)) (tNil)))) (tC (.int 2))) (tC (.int 2))) (tC (.int 1)))) (tSeq (tAsg (tVar 2) (gName 4)) (tSeq (tAsg (tVar 3) (gName 2)) (tAsg (tVar 4) (gName 3)))) (tNext)) (tSeq (tAsg (tCall (sp_change_of A) [] E0 (tCons (tVar 2) (tCons (tVar 3) (tNil)))) (gName 5)) (tSeq (tIfS (tOr (tNot (tB (tCall (sp_l_change A) [] E0 (tCons (tVar 5) (tNil))))) (tNot (tB (tCall (sp_l_leads A) [] E0 (tCons (tVar 2) (tCons (tVar 3) (tCons (tVar 5) (tNil)))))))) (tRet (tC (.bl false))) (tNext)) (tSeq (tIfS (tTest (tOp (rGt) (tVar 1) (tC (.int 89)))) (tRet (tC (.bl true))) (tNext)) (tSeq (tAsg (tCall (sp_l_left_by A) [] E0 (tCons (tVar 2) (tCons (tVar 3) (tNil)))) (gName 6)) (tRet (tAndV (tOp (rEqG A.K) (tCB (rLenG A.K) (tCons (tOp (rIx A.K) (tVar 5) (tC (.int 1))) (tNil))) (tOp rSub (tCB (rLenG A.K) (tCons (tVar 2) (tNil))) (tVar 6))) (tOp (rEqG A.K) (tCB (rLenG A.K) (tCons (tOp (rIx A.K) (tVar 5) (tC (.int 2))) (tNil))) (tOp rSub (tCB (rLenG A.K) (tCons (tVar 3) (tNil))) (tVar 6)))))))))))))))
theorem p_l_law (A : Ad) {vs : List V} {H : Hp} {Q : VK} {E : XK} (h : sp_l_law A vs H Q E) : t_l_law A E { nx := fun _ H2 => Q .non H2, rt := Q } (start ["_law_script", "_law_size", "_law_old", "_law_new", "_law_kept", "_law_found", "_law_most"] vs) H := by
  obtain ⟨a, ns, rfl, hS, hl, h1⟩ := h
  change t_l_law A E _ [_, none, none, none, none, none, none] _
  unfold t_l_law
  walk_at "rd"
  refine r_cut (fun σ' H' => ∃ n : Int, σ' = [some (.ref a), some (.int n), none, none, none, none, none] ∧ 0 ≤ n ∧ n < 400 ∧ H' = H) ?_ ?_
  · walk_at "rd"
    refine r_dec (fun c => ?_) (fun c => ?_)
    · walk_at "rd"
      exact ⟨_, rfl, by omega, by omega, rfl⟩
    · walk_at "rd"
      exact ⟨_, rfl, by omega, by omega, rfl⟩
  rintro σ' H' ⟨n, rfl, n0, n1, rfl⟩
  walk_at "rd"
  refine r_cut (fun σ' H2 => ∃ n : Int, σ' = [some (.ref a), some (.int n), none, none, none, none, none] ∧ 0 ≤ n ∧ n < 400 ∧ H2 = H') ?_ ?_
  · walk_at "rd"
    refine r_dec (fun c => ?_) (fun c => ?_)
    · walk_at "rd"
      exact ⟨_, rfl, by omega, by omega, rfl⟩
    · walk_at "rd"
      exact ⟨_, rfl, by omega, by omega, rfl⟩
  clear n0 n1
  rintro σ' H' ⟨n, rfl, n0, n1, rfl⟩
  walk_at "rd"
  refine u_text_by n0 (by omega) fun z H1 hz oz s1 => ?_
  walk_at "rd"
  refine r_cut (fun σ' H2 => ∃ z : List Nat, σ' = [some (.ref a), some (.int n), some (.str (S z)), none, none, none, none] ∧ z.length < 400 ∧ Ok z ∧ Same H' H2) ?_ ?_
  · walk_at "rd"
    refine r_dec (fun c => ?_) (fun c => ?_)
    · walk_at "rd"
      refine u_by_turns n0 (by omega) fun z2 H2 hz2 oz2 s2 => ?_
      walk_at "rd"
      exact ⟨z2, rfl, by omega, oz2, s1.trans s2⟩
    · walk_at "rd"
      exact ⟨z, rfl, by omega, oz, s1⟩
  clear hz oz z s1 H1
  rintro σ' H1 ⟨z, rfl, lz, oz, s1⟩
  walk_at "rd"
  refine u_next_text (by omega) oz fun y H2 s2 ly oy => ?_
  walk_at "rd"
  refine r_cut (fun σ' H3 => ∃ (u v : List Nat) (x : Option V), σ' = [some (.ref a), some (.int n), some (.str (S u)), some (.str (S v)), x, none, none] ∧ u.length < 500 ∧ Ok u ∧ v.length < 500 ∧ Ok v ∧ H3 = H2) ?_ ?_
  · walk_at "rd"
    refine r_dec (fun c => ?_) (fun c => ?_)
    · walk_at "rd"
      exact ⟨y, z, _, rfl, by omega, oy, by omega, oz, rfl⟩
    · walk_at "rd"
      exact ⟨z, y, _, rfl, by omega, oz, by omega, oy, rfl⟩
  rintro σ' H2 ⟨u, v, x, rfl, lu, ou, lv, ov, rfl⟩
  walk_at "rd"
  refine ⟨u, v, rfl, by omega, by omega, fun t H3 nt s3 e3 => ?_⟩
  walk_at "rd"
  refine u_change e3 ?_
  walk_at "rd"
  refine ⟨u, v, t, rfl, by omega, by omega, e3, ?_⟩
  walk_at "rd"
  refine r_dec (fun c => ?_) fun c => ?_
  · walk_at "rd"
    exact h1 _
  walk_at "rd"
  refine ⟨u, v, rfl, by omega, by omega, ?_⟩
  walk_at "rd"
  have g1 := gone_len u v
  have g2 := come_len u v
  have g3 := most_eq u v
  refine r_lenS (sz (by omega)) ?_
  walk_at "rd"
  rw [decide_eq_true (show ((goneOf u v).length : Int) = (u.length : Int) - (mostOf u v : Nat) by omega)]
  walk_at "rd"
  rw [decide_eq_true (show ((comeOf u v).length : Int) = (v.length : Int) - (mostOf u v : Nat) by omega)]
  exact h1 _
/-! ### the row: where each def stands, its derivation -/
def topS (i : Nat) : Stmt := PySem.Challenge.pw_packdelta_k03_whole_least_change.main.body.getD i (.Pass ⟨0, 0, 0, 0⟩)
abbrev s_alike_ahead : Stmt := topS 1
abbrev n_alike_ahead : List Str := ["one", "other", "many"]
abbrev a_alike_ahead : List Str := ["one", "other"]
theorem sc_alike_ahead : FnScope n_alike_ahead a_alike_ahead (defScope s_alike_ahead) := ⟨rfl, rfl, rfl, by decide +kernel, rfl, by decide +kernel, by decide +kernel⟩
abbrev s_alike_behind : Stmt := topS 2
abbrev n_alike_behind : List Str := ["one", "other", "most", "many"]
abbrev a_alike_behind : List Str := ["one", "other", "most"]
theorem sc_alike_behind : FnScope n_alike_behind a_alike_behind (defScope s_alike_behind) := ⟨rfl, rfl, rfl, by decide +kernel, rfl, by decide +kernel, by decide +kernel⟩
abbrev s_change_of : Stmt := topS 3
abbrev n_change_of : List Str := ["old", "new", "at", "many"]
abbrev a_change_of : List Str := ["old", "new"]
theorem sc_change_of : FnScope n_change_of a_change_of (defScope s_change_of) := ⟨rfl, rfl, rfl, by decide +kernel, rfl, by decide +kernel, by decide +kernel⟩
abbrev s_l_cell_at : Stmt := topS 5
abbrev n_l_cell_at : List Str := ["_law_script", "_law_k"]
abbrev a_l_cell_at : List Str := ["_law_script", "_law_k"]
theorem sc_l_cell_at : FnScope n_l_cell_at a_l_cell_at (defScope s_l_cell_at) := ⟨rfl, rfl, rfl, by decide +kernel, rfl, by decide +kernel, by decide +kernel⟩
abbrev s_l_whole : Stmt := topS 6
abbrev n_l_whole : List Str := ["_law_found"]
abbrev a_l_whole : List Str := ["_law_found"]
theorem sc_l_whole : FnScope n_l_whole a_l_whole (defScope s_l_whole) := ⟨rfl, rfl, rfl, by decide +kernel, rfl, by decide +kernel, by decide +kernel⟩
abbrev s_l_sign_by : Stmt := topS 7
abbrev n_l_sign_by : List Str := ["_law_cell", "_law_some"]
abbrev a_l_sign_by : List Str := ["_law_cell"]
theorem sc_l_sign_by : FnScope n_l_sign_by a_l_sign_by (defScope s_l_sign_by) := ⟨rfl, rfl, rfl, by decide +kernel, rfl, by decide +kernel, by decide +kernel⟩
abbrev s_l_text_by : Stmt := topS 8
abbrev n_l_text_by : List Str := ["_law_cell", "_law_size", "_law_k"]
abbrev a_l_text_by : List Str := ["_law_cell", "_law_size"]
theorem sc_l_text_by : FnScope n_l_text_by a_l_text_by (defScope s_l_text_by) := ⟨rfl, rfl, rfl, by decide +kernel, rfl, by decide +kernel, by decide +kernel⟩
abbrev s_l_next_text : Stmt := topS 9
abbrev n_l_next_text : List Str := ["_law_old", "_law_cell", "_law_way", "_law_at", "_law_left"]
abbrev a_l_next_text : List Str := ["_law_old", "_law_cell"]
theorem sc_l_next_text : FnScope n_l_next_text a_l_next_text (defScope s_l_next_text) := ⟨rfl, rfl, rfl, by decide +kernel, rfl, by decide +kernel, by decide +kernel⟩
abbrev s_l_change : Stmt := topS 10
abbrev n_l_change : List Str := ["_law_found"]
abbrev a_l_change : List Str := ["_law_found"]
theorem sc_l_change : FnScope n_l_change a_l_change (defScope s_l_change) := ⟨rfl, rfl, rfl, by decide +kernel, rfl, by decide +kernel, by decide +kernel⟩
abbrev s_l_by_turns : Stmt := topS 11
abbrev n_l_by_turns : List Str := ["_law_cell", "_law_size", "_law_many", "_law_k"]
abbrev a_l_by_turns : List Str := ["_law_cell", "_law_size"]
theorem sc_l_by_turns : FnScope n_l_by_turns a_l_by_turns (defScope s_l_by_turns) := ⟨rfl, rfl, rfl, by decide +kernel, rfl, by decide +kernel, by decide +kernel⟩
abbrev s_l_left_by : Stmt := topS 12
abbrev n_l_left_by : List Str := ["_law_old", "_law_new", "_law_most", "_law_least", "_law_ahead", "_law_behind"]
abbrev a_l_left_by : List Str := ["_law_old", "_law_new"]
theorem sc_l_left_by : FnScope n_l_left_by a_l_left_by (defScope s_l_left_by) := ⟨rfl, rfl, rfl, by decide +kernel, rfl, by decide +kernel, by decide +kernel⟩
abbrev s_l_leads : Stmt := topS 13
abbrev n_l_leads : List Str := ["_law_old", "_law_new", "_law_found", "_law_at", "_law_gone", "_law_come"]
abbrev a_l_leads : List Str := ["_law_old", "_law_new", "_law_found"]
theorem sc_l_leads : FnScope n_l_leads a_l_leads (defScope s_l_leads) := ⟨rfl, rfl, rfl, by decide +kernel, rfl, by decide +kernel, by decide +kernel⟩
abbrev s_l_law : Stmt := topS 14
abbrev n_l_law : List Str := ["_law_script", "_law_size", "_law_old", "_law_new", "_law_kept", "_law_found", "_law_most"]
abbrev a_l_law : List Str := ["_law_script"]
theorem sc_l_law : FnScope n_l_law a_l_law (defScope s_l_law) := ⟨rfl, rfl, rfl, by decide +kernel, rfl, by decide +kernel, by decide +kernel⟩
structure TF (A : Ad) (mg : Str → Option Value) : Prop where
  bool_ : mg "bool" = none
  int_ : mg "int" = none
  isinstance_ : mg "isinstance" = none
  len_ : mg "len" = none
  max_ : mg "max" = none
  min_ : mg "min" = none
  range_ : mg "range" = none
  str_ : mg "str" = none
  tuple_ : mg "tuple" = none
section
variable {P : Program} {w : World} {A : Ad} {mg : Str → Option Value} {base : Heap}
theorem d_alike_ahead (T : TF A mg)  {f : Addr} {fd : FuncData} (F : FunD A.K "alike_ahead" "alike_ahead" (defArgs s_alike_ahead) (defBody s_alike_ahead) (defScope s_alike_ahead) [] [] f fd) : FnOk P w A.K mg base (L2.CX P w) 1 f fd a_alike_ahead (sp_alike_ahead A) := by
  refine F.ok (k := 0) sc_alike_ahead (fun vs H Q E h => ?_) (fun cdv A2 outer s H vs Q E hr h => ⟨t_alike_ahead A E, ?_, p_alike_ahead A  h⟩)
  · unfold sp_alike_ahead at h
    (repeat (obtain ⟨_, h⟩ := h)); subst_vars; rfl
  · exact pss_cons (ps_set (i := 2) sc_alike_ahead.nd rfl (Or.inl rfl) (pe_int)) (pss_cons (ps_while (passes_of rfl) (PW.pt (pw_and (pt_cmpR op_lt (pv 2) (pe_callB (call_min2 rfl) (by rfl) T.min_ (by decide +kernel) (pa_cons (pe_callB call_lenG (by rfl) T.len_ (by decide +kernel) (pa_cons (pv 0) (pa_nil))) (pa_cons (pe_callB call_lenG (by rfl) T.len_ (by decide +kernel) (pa_cons (pv 1) (pa_nil))) (pa_nil)))) (nomark _)) (pw_and1 (pt_cmpR (op_eqG hr.units) (pe_ix ix_seq (pv 0) (pv 2) (fun _ _ => rfl)) (pe_ix ix_seq (pv 1) (pv 2) (fun _ _ => rfl)) (nomark _))))) (pss_one (ps_set (i := 2) sc_alike_ahead.nd rfl (Or.inl rfl) (pe_op op_add3 (pv 2) (pe_int))))) (pss_one (ps_ret (pv 2))))
theorem d_alike_behind (T : TF A mg)  {f : Addr} {fd : FuncData} (F : FunD A.K "alike_behind" "alike_behind" (defArgs s_alike_behind) (defBody s_alike_behind) (defScope s_alike_behind) [] [] f fd) : FnOk P w A.K mg base (L2.CX P w) 1 f fd a_alike_behind (sp_alike_behind A) := by
  refine F.ok (k := 0) sc_alike_behind (fun vs H Q E h => ?_) (fun cdv A2 outer s H vs Q E hr h => ⟨t_alike_behind A E, ?_, p_alike_behind A  h⟩)
  · unfold sp_alike_behind at h
    (repeat (obtain ⟨_, h⟩ := h)); subst_vars; rfl
  · exact pss_cons (ps_set (i := 3) sc_alike_behind.nd rfl (Or.inl rfl) (pe_int)) (pss_cons (ps_while (passes_of rfl) (PW.pt (pw_and (pt_cmpR op_lt (pv 3) (pv 2) (nomark _)) (pw_and1 (pt_cmpR (op_eqG hr.units) (pe_ix ix_seq (pv 0) (pe_op op_sub (pe_op op_sub (pe_callB call_lenG (by rfl) T.len_ (by decide +kernel) (pa_cons (pv 0) (pa_nil))) (pe_int)) (pv 3)) (fun _ _ => rfl)) (pe_ix ix_seq (pv 1) (pe_op op_sub (pe_op op_sub (pe_callB call_lenG (by rfl) T.len_ (by decide +kernel) (pa_cons (pv 1) (pa_nil))) (pe_int)) (pv 3)) (fun _ _ => rfl)) (nomark _))))) (pss_one (ps_set (i := 3) sc_alike_behind.nd rfl (Or.inl rfl) (pe_op op_add3 (pv 3) (pe_int))))) (pss_one (ps_ret (pv 3))))
theorem d_change_of (T : TF A mg)  {f : Addr} {fd : FuncData} (F : FunD A.K "change_of" "change_of" (defArgs s_change_of) (defBody s_change_of) (defScope s_change_of) [] [] f fd) {f_alike_ahead : Addr} {fd_alike_ahead : FuncData} (G_alike_ahead : FnAt P w A.K mg base "alike_ahead" 1 a_alike_ahead (sp_alike_ahead A) f_alike_ahead fd_alike_ahead) {f_alike_behind : Addr} {fd_alike_behind : FuncData} (G_alike_behind : FnAt P w A.K mg base "alike_behind" 1 a_alike_behind (sp_alike_behind A) f_alike_behind fd_alike_behind) : FnOk P w A.K mg base (L2.CX P w) 2 f fd a_change_of (sp_change_of A) := by
  refine F.ok (k := 1) sc_change_of (fun vs H Q E h => ?_) (fun cdv A2 outer s H vs Q E hr h => ⟨t_change_of A E, ?_, p_change_of A  h⟩)
  · unfold sp_change_of at h
    (repeat (obtain ⟨_, h⟩ := h)); subst_vars; rfl
  · have hr_1 := hr.mono (show 1 ≤ 1 by decide)
    exact pss_cons (ps_set (i := 2) sc_change_of.nd rfl (Or.inl rfl) (pe_call G_alike_ahead.ok hr_1 (by rfl) G_alike_ahead.mg G_alike_ahead.kp G_alike_ahead.b .nil (passL) (pa_cons (pv 0) (pa_cons (pv 1) (pa_nil))))) (pss_cons (ps_set (i := 3) sc_change_of.nd rfl (Or.inl rfl) (pe_call G_alike_behind.ok hr_1 (by rfl) G_alike_behind.mg G_alike_behind.kp G_alike_behind.b .nil (passL) (pa_cons (pv 0) (pa_cons (pv 1) (pa_cons (pe_op op_sub (pe_callB (call_min2 rfl) (by rfl) T.min_ (by decide +kernel) (pa_cons (pe_callB call_lenG (by rfl) T.len_ (by decide +kernel) (pa_cons (pv 0) (pa_nil))) (pa_cons (pe_callB call_lenG (by rfl) T.len_ (by decide +kernel) (pa_cons (pv 1) (pa_nil))) (pa_nil)))) (pv 2)) (pa_nil)))))) (pss_one (ps_ret (pe_tup (pa_cons (pv 2) (pa_cons (pe_slice sl_2 (pv 0) (po_some (pv 2)) (po_some (pe_op op_sub (pe_callB call_lenG (by rfl) T.len_ (by decide +kernel) (pa_cons (pv 0) (pa_nil))) (pv 3)))) (pa_cons (pe_slice sl_2 (pv 1) (po_some (pv 2)) (po_some (pe_op op_sub (pe_callB call_lenG (by rfl) T.len_ (by decide +kernel) (pa_cons (pv 1) (pa_nil))) (pv 3)))) (pa_nil))))))))
theorem d_l_cell_at (T : TF A mg)  {f : Addr} {fd : FuncData} (F : FunD A.K "_law_cell_at" "_law_cell_at" (defArgs s_l_cell_at) (defBody s_l_cell_at) (defScope s_l_cell_at) [] [] f fd) : FnOk P w A.K mg base (L2.CX P w) 1 f fd a_l_cell_at (sp_l_cell_at A) := by
  refine F.ok (k := 0) sc_l_cell_at (fun vs H Q E h => ?_) (fun cdv A2 outer s H vs Q E hr h => ⟨t_l_cell_at A E, ?_, p_l_cell_at A  h⟩)
  · unfold sp_l_cell_at at h
    (repeat (obtain ⟨_, h⟩ := h)); subst_vars; rfl
  · exact pss_cons (ps_if (pt_cmpR op_lt (pv 1) (pe_callB call_lenG (by rfl) T.len_ (by decide +kernel) (pa_cons (pv 0) (pa_nil))) (nomark _)) (pss_one (ps_ret (pe_ix ix_seq (pv 0) (pv 1) (fun _ _ => rfl)))) (pss_nil)) (pss_one (ps_ret (pe_int)))
theorem d_l_whole (T : TF A mg)  {f : Addr} {fd : FuncData} (F : FunD A.K "_law_whole" "_law_whole" (defArgs s_l_whole) (defBody s_l_whole) (defScope s_l_whole) [] [] f fd) : FnOk P w A.K mg base (L2.CX P w) 1 f fd a_l_whole (sp_l_whole A) := by
  refine F.ok (k := 0) sc_l_whole (fun vs H Q E h => ?_) (fun cdv A2 outer s H vs Q E hr h => ⟨t_l_whole A E, ?_, p_l_whole A  h⟩)
  · unfold sp_l_whole at h
    (repeat (obtain ⟨_, h⟩ := h)); subst_vars; rfl
  · exact pss_one (ps_ret (pe_and (pe_callB call_isi (by rfl) T.isinstance_ (by decide +kernel) (pa_cons (pv 0) (pa_cons (pe_bltn (by rfl) T.int_ (by decide +kernel) rfl) (pa_nil)))) (pe_one (pe_not (pe_callB call_isi (by rfl) T.isinstance_ (by decide +kernel) (pa_cons (pv 0) (pa_cons (pe_bltn (by rfl) T.bool_ (by decide +kernel) rfl) (pa_nil))))))))
theorem d_l_sign_by (T : TF A mg)  {f : Addr} {fd : FuncData} (F : FunD A.K "_law_sign_by" "_law_sign_by" (defArgs s_l_sign_by) (defBody s_l_sign_by) (defScope s_l_sign_by) [] [] f fd) : FnOk P w A.K mg base (L2.CX P w) 1 f fd a_l_sign_by (sp_l_sign_by A) := by
  refine F.ok (k := 0) sc_l_sign_by (fun vs H Q E h => ?_) (fun cdv A2 outer s H vs Q E hr h => ⟨t_l_sign_by A E, ?_, p_l_sign_by A  h⟩)
  · unfold sp_l_sign_by at h
    (repeat (obtain ⟨_, h⟩ := h)); subst_vars; rfl
  · exact pss_cons (ps_set (i := 1) sc_l_sign_by.nd rfl (Or.inl rfl) (pe_str)) (pss_cons (ps_set (i := 1) sc_l_sign_by.nd rfl (Or.inl rfl) (pe_op op_add3 (pv 1) (pe_str))) (pss_one (ps_ret (pe_ix ix_seq (pv 1) (pe_op op_mod (pv 0) (pe_int)) (fun _ _ => rfl)))))
theorem d_l_text_by (T : TF A mg)  {f : Addr} {fd : FuncData} (F : FunD A.K "_law_text_by" "_law_text_by" (defArgs s_l_text_by) (defBody s_l_text_by) (defScope s_l_text_by) [] [] f fd) {f_l_sign_by : Addr} {fd_l_sign_by : FuncData} (G_l_sign_by : FnAt P w A.K mg base "_law_sign_by" 1 a_l_sign_by (sp_l_sign_by A) f_l_sign_by fd_l_sign_by) : FnOk P w A.K mg base (L2.CX P w) 2 f fd a_l_text_by (sp_l_text_by A) := by
  refine F.ok (k := 1) sc_l_text_by (fun vs H Q E h => ?_) (fun cdv A2 outer s H vs Q E hr h => ⟨t_l_text_by A E, ?_, p_l_text_by A  h⟩)
  · unfold sp_l_text_by at h
    (repeat (obtain ⟨_, h⟩ := h)); subst_vars; rfl
  · have hr_1 := hr.mono (show 1 ≤ 1 by decide)
    exact pss_one (ps_ret (pe_bm PySem.F.plainAttrs_str PySem.F.slot_str_join PySem.F.type_str_join mt_join (pe_str) (pa_cons (pe_lc (own := [("_law_k", 2)]) (g := gName 2) (tt := tYes) rfl sc_l_text_by.nd (pi_range1 rfl T.range_ (pa_cons (pv 1) (pa_nil))) (blkOk_by (own := [("_law_k", 2)]) (N := n_l_text_by) (sc := defScope s_l_text_by) (by decide +kernel)) (fun _ _ _ _ _ => pg_name (i := 2) sc_l_text_by.nd rfl (Or.inl rfl)) (fun _ _ _ _ _ => pts_nil) (fun _ _ _ _ _ => pe_call G_l_sign_by.ok hr_1 (by rfl) G_l_sign_by.mg G_l_sign_by.kp G_l_sign_by.b .nil (passL) (pa_cons (pe_op op_add3 (pv 0) (pe_op op_mul (pe_int) (pe_op op_fdiv (pv 2) (pe_op op_add3 (pe_int) (pe_op op_mod (pv 0) (pe_int)))))) (pa_nil)))) (pa_nil))))
theorem d_l_next_text (T : TF A mg)  {f : Addr} {fd : FuncData} (F : FunD A.K "_law_next_text" "_law_next_text" (defArgs s_l_next_text) (defBody s_l_next_text) (defScope s_l_next_text) [] [] f fd) {f_l_text_by : Addr} {fd_l_text_by : FuncData} (G_l_text_by : FnAt P w A.K mg base "_law_text_by" 2 a_l_text_by (sp_l_text_by A) f_l_text_by fd_l_text_by) {f_l_sign_by : Addr} {fd_l_sign_by : FuncData} (G_l_sign_by : FnAt P w A.K mg base "_law_sign_by" 1 a_l_sign_by (sp_l_sign_by A) f_l_sign_by fd_l_sign_by) : FnOk P w A.K mg base (L2.CX P w) 3 f fd a_l_next_text (sp_l_next_text A) := by
  refine F.ok (k := 2) sc_l_next_text (fun vs H Q E h => ?_) (fun cdv A2 outer s H vs Q E hr h => ⟨t_l_next_text A E, ?_, p_l_next_text A  h⟩)
  · unfold sp_l_next_text at h
    (repeat (obtain ⟨_, h⟩ := h)); subst_vars; rfl
  · have hr_1 := hr.mono (show 1 ≤ 2 by decide)
    have hr_2 := hr.mono (show 2 ≤ 2 by decide)
    exact pss_cons (ps_set (i := 2) sc_l_next_text.nd rfl (Or.inl rfl) (pe_op op_mod (pv 1) (pe_int))) (pss_cons (ps_set (i := 3) sc_l_next_text.nd rfl (Or.inl rfl) (pe_op op_mod (pe_op op_fdiv (pv 1) (pe_int)) (pe_op op_add3 (pe_callB call_lenG (by rfl) T.len_ (by decide +kernel) (pa_cons (pv 0) (pa_nil))) (pe_int)))) (pss_cons (ps_set (i := 4) sc_l_next_text.nd rfl (Or.inl rfl) (pe_op op_fdiv (pe_op op_fdiv (pv 1) (pe_int)) (pe_op op_add3 (pe_callB call_lenG (by rfl) T.len_ (by decide +kernel) (pa_cons (pv 0) (pa_nil))) (pe_int)))) (pss_cons (ps_if (pt_cmpR (op_eqG hr.units) (pv 2) (pe_int) (nomark _)) (pss_one (ps_ret (pv 0))) (pss_nil)) (pss_cons (ps_if (pt_cmpR (op_eqG hr.units) (pv 2) (pe_int) (nomark _)) (pss_one (ps_ret (pe_op op_add3 (pe_op op_add3 (pe_op op_add3 (pe_slice sl_2 (pv 0) (po_none) (po_some (pv 3))) (pe_call G_l_sign_by.ok hr_1 (by rfl) G_l_sign_by.mg G_l_sign_by.kp G_l_sign_by.b .nil (passL) (pa_cons (pv 4) (pa_nil)))) (pe_call G_l_sign_by.ok hr_1 (by rfl) G_l_sign_by.mg G_l_sign_by.kp G_l_sign_by.b .nil (passL) (pa_cons (pe_op op_fdiv (pv 4) (pe_int)) (pa_nil)))) (pe_slice sl_2 (pv 0) (po_some (pv 3)) (po_none))))) (pss_nil)) (pss_cons (ps_if (pt_cmpR (op_eqG hr.units) (pv 2) (pe_int) (nomark _)) (pss_one (ps_ret (pe_op op_add3 (pe_slice sl_2 (pv 0) (po_none) (po_some (pv 3))) (pe_slice sl_2 (pv 0) (po_some (pe_op op_add3 (pe_op op_add3 (pv 3) (pe_int)) (pe_op op_mod (pv 4) (pe_int)))) (po_none))))) (pss_nil)) (pss_cons (ps_if (pt_cmpR (op_eqG hr.units) (pv 2) (pe_int) (nomark _)) (pss_one (ps_ret (pe_op op_add3 (pe_op op_add3 (pe_slice sl_2 (pv 0) (po_none) (po_some (pv 3))) (pe_call G_l_sign_by.ok hr_1 (by rfl) G_l_sign_by.mg G_l_sign_by.kp G_l_sign_by.b .nil (passL) (pa_cons (pv 4) (pa_nil)))) (pe_slice sl_2 (pv 0) (po_some (pe_op op_add3 (pv 3) (pe_int))) (po_none))))) (pss_nil)) (pss_one (ps_ret (pe_call G_l_text_by.ok hr_2 (by rfl) G_l_text_by.mg G_l_text_by.kp G_l_text_by.b .nil (passL) (pa_cons (pv 4) (pa_cons (pe_op op_mod (pv 4) (pe_int)) (pa_nil))))))))))))
theorem d_l_change (T : TF A mg)  {f : Addr} {fd : FuncData} (F : FunD A.K "_law_change" "_law_change" (defArgs s_l_change) (defBody s_l_change) (defScope s_l_change) [] [] f fd) {f_l_whole : Addr} {fd_l_whole : FuncData} (G_l_whole : FnAt P w A.K mg base "_law_whole" 1 a_l_whole (sp_l_whole A) f_l_whole fd_l_whole) : FnOk P w A.K mg base (L2.CX P w) 2 f fd a_l_change (sp_l_change A) := by
  refine F.ok (k := 1) sc_l_change (fun vs H Q E h => ?_) (fun cdv A2 outer s H vs Q E hr h => ⟨t_l_change A E, ?_, p_l_change A  h⟩)
  · unfold sp_l_change at h
    (repeat (obtain ⟨_, h⟩ := h)); subst_vars; rfl
  · have hr_1 := hr.mono (show 1 ≤ 1 by decide)
    exact pss_cons (ps_if (PW.pt (pw_or (pt_not (pt_val (pe_callB call_isi (by rfl) T.isinstance_ (by decide +kernel) (pa_cons (pv 0) (pa_cons (pe_bltn (by rfl) T.tuple_ (by decide +kernel) rfl) (pa_nil)))))) (pw_or1 (pt_cmpR (op_neG hr.units) (pe_callB call_lenG (by rfl) T.len_ (by decide +kernel) (pa_cons (pv 0) (pa_nil))) (pe_int) (nomark _))))) (pss_one (ps_ret (pe_bl))) (pss_nil)) (pss_one (ps_ret (pe_and (pe_call G_l_whole.ok hr_1 (by rfl) G_l_whole.mg G_l_whole.kp G_l_whole.b .nil (passL) (pa_cons (pe_ix ix_seq (pv 0) (pe_int) (fun _ _ => rfl)) (pa_nil))) (pe_and (pe_callB call_isi (by rfl) T.isinstance_ (by decide +kernel) (pa_cons (pe_ix ix_seq (pv 0) (pe_int) (fun _ _ => rfl)) (pa_cons (pe_bltn (by rfl) T.str_ (by decide +kernel) rfl) (pa_nil)))) (pe_one (pe_callB call_isi (by rfl) T.isinstance_ (by decide +kernel) (pa_cons (pe_ix ix_seq (pv 0) (pe_int) (fun _ _ => rfl)) (pa_cons (pe_bltn (by rfl) T.str_ (by decide +kernel) rfl) (pa_nil)))))))))
theorem d_l_by_turns (T : TF A mg)  {f : Addr} {fd : FuncData} (F : FunD A.K "_law_by_turns" "_law_by_turns" (defArgs s_l_by_turns) (defBody s_l_by_turns) (defScope s_l_by_turns) [] [] f fd) {f_l_sign_by : Addr} {fd_l_sign_by : FuncData} (G_l_sign_by : FnAt P w A.K mg base "_law_sign_by" 1 a_l_sign_by (sp_l_sign_by A) f_l_sign_by fd_l_sign_by) : FnOk P w A.K mg base (L2.CX P w) 2 f fd a_l_by_turns (sp_l_by_turns A) := by
  refine F.ok (k := 1) sc_l_by_turns (fun vs H Q E h => ?_) (fun cdv A2 outer s H vs Q E hr h => ⟨t_l_by_turns A E, ?_, p_l_by_turns A  h⟩)
  · unfold sp_l_by_turns at h
    (repeat (obtain ⟨_, h⟩ := h)); subst_vars; rfl
  · have hr_1 := hr.mono (show 1 ≤ 1 by decide)
    exact pss_cons (ps_set (i := 2) sc_l_by_turns.nd rfl (Or.inr rfl) (pe_op op_add3 (pe_int) (pe_op op_mod (pv 0) (pe_int)))) (pss_one (ps_ret (pe_bm PySem.F.plainAttrs_str PySem.F.slot_str_join PySem.F.type_str_join mt_join (pe_str) (pa_cons (pe_lc (own := [("_law_k", 3)]) (g := gName 3) (tt := tYes) rfl sc_l_by_turns.nd (pi_range1 rfl T.range_ (pa_cons (pv 1) (pa_nil))) (blkOk_by (own := [("_law_k", 3)]) (N := n_l_by_turns) (sc := defScope s_l_by_turns) (by decide +kernel)) (fun _ _ _ _ _ => pg_name (i := 3) sc_l_by_turns.nd rfl (Or.inl rfl)) (fun _ _ _ _ _ => pts_nil) (fun _ _ _ _ _ => pe_call G_l_sign_by.ok hr_1 (by rfl) G_l_sign_by.mg G_l_sign_by.kp G_l_sign_by.b .nil (passL) (pa_cons (pe_op op_add3 (pe_op op_fdiv (pv 0) (pe_int)) (pe_op op_mod (pv 3) (pv 2))) (pa_nil)))) (pa_nil)))))
theorem d_l_left_by (T : TF A mg)  {f : Addr} {fd : FuncData} (F : FunD A.K "_law_left_by" "_law_left_by" (defArgs s_l_left_by) (defBody s_l_left_by) (defScope s_l_left_by) [] [] f fd) : FnOk P w A.K mg base (L2.CX P w) 1 f fd a_l_left_by (sp_l_left_by A) := by
  refine F.ok (k := 0) sc_l_left_by (fun vs H Q E h => ?_) (fun cdv A2 outer s H vs Q E hr h => ⟨t_l_left_by A E, ?_, p_l_left_by A  h⟩)
  · unfold sp_l_left_by at h
    (repeat (obtain ⟨_, h⟩ := h)); subst_vars; rfl
  · exact pss_cons (ps_set (i := 2) sc_l_left_by.nd rfl (Or.inl rfl) (pe_int)) (pss_cons (ps_set (i := 3) sc_l_left_by.nd rfl (Or.inl rfl) (pe_callB (call_min2 rfl) (by rfl) T.min_ (by decide +kernel) (pa_cons (pe_callB call_lenG (by rfl) T.len_ (by decide +kernel) (pa_cons (pv 0) (pa_nil))) (pa_cons (pe_callB call_lenG (by rfl) T.len_ (by decide +kernel) (pa_cons (pv 1) (pa_nil))) (pa_nil))))) (pss_cons (ps_set (i := 4) sc_l_left_by.nd rfl (Or.inl rfl) (pe_int)) (pss_cons (ps_while (passes_of rfl) (PW.pt (pw_and (pt_cmpR op_le (pv 4) (pv 3) (nomark _)) (pw_and1 (pt_cmpR (op_eqG hr.units) (pe_slice sl_2 (pv 0) (po_none) (po_some (pv 4))) (pe_slice sl_2 (pv 1) (po_none) (po_some (pv 4))) (nomark _))))) (pss_cons (ps_set (i := 5) sc_l_left_by.nd rfl (Or.inl rfl) (pe_int)) (pss_cons (ps_while (passes_of rfl) (PW.pt (pw_and (pt_cmpR op_le (pe_op op_add3 (pv 4) (pv 5)) (pv 3) (nomark _)) (pw_and1 (pt_cmpR (op_eqG hr.units) (pe_slice sl_2 (pv 0) (po_some (pe_op op_sub (pe_callB call_lenG (by rfl) T.len_ (by decide +kernel) (pa_cons (pv 0) (pa_nil))) (pv 5))) (po_none)) (pe_slice sl_2 (pv 1) (po_some (pe_op op_sub (pe_callB call_lenG (by rfl) T.len_ (by decide +kernel) (pa_cons (pv 1) (pa_nil))) (pv 5))) (po_none)) (nomark _))))) (pss_cons (ps_set (i := 2) sc_l_left_by.nd rfl (Or.inl rfl) (pe_callB (call_max2 rfl) (by rfl) T.max_ (by decide +kernel) (pa_cons (pv 2) (pa_cons (pe_op op_add3 (pv 4) (pv 5)) (pa_nil))))) (pss_one (ps_set (i := 5) sc_l_left_by.nd rfl (Or.inl rfl) (pe_op op_add3 (pv 5) (pe_int)))))) (pss_one (ps_set (i := 4) sc_l_left_by.nd rfl (Or.inl rfl) (pe_op op_add3 (pv 4) (pe_int))))))) (pss_one (ps_ret (pv 2))))))
theorem d_l_leads (T : TF A mg)  {f : Addr} {fd : FuncData} (F : FunD A.K "_law_leads" "_law_leads" (defArgs s_l_leads) (defBody s_l_leads) (defScope s_l_leads) [] [] f fd) : FnOk P w A.K mg base (L2.CX P w) 1 f fd a_l_leads (sp_l_leads A) := by
  refine F.ok (k := 0) sc_l_leads (fun vs H Q E h => ?_) (fun cdv A2 outer s H vs Q E hr h => ⟨t_l_leads A E, ?_, p_l_leads A  h⟩)
  · unfold sp_l_leads at h
    (repeat (obtain ⟨_, h⟩ := h)); subst_vars; rfl
  · exact pss_cons (ps_set (i := 3) sc_l_leads.nd rfl (Or.inl rfl) (pe_ix ix_seq (pv 2) (pe_int) (fun _ _ => rfl))) (pss_cons (ps_set (i := 4) sc_l_leads.nd rfl (Or.inl rfl) (pe_ix ix_seq (pv 2) (pe_int) (fun _ _ => rfl))) (pss_cons (ps_set (i := 5) sc_l_leads.nd rfl (Or.inl rfl) (pe_ix ix_seq (pv 2) (pe_int) (fun _ _ => rfl))) (pss_cons (ps_if (PW.pt (pw_or (pt_cmpR op_lt (pv 3) (pe_int) (nomark _)) (pw_or (pt_cmpR op_gt (pe_op op_add3 (pv 3) (pe_callB call_lenG (by rfl) T.len_ (by decide +kernel) (pa_cons (pv 4) (pa_nil)))) (pe_callB call_lenG (by rfl) T.len_ (by decide +kernel) (pa_cons (pv 0) (pa_nil))) (nomark _)) (pw_or1 (pt_cmpR (op_neG hr.units) (pe_slice sl_2 (pv 0) (po_some (pv 3)) (po_some (pe_op op_add3 (pv 3) (pe_callB call_lenG (by rfl) T.len_ (by decide +kernel) (pa_cons (pv 4) (pa_nil)))))) (pv 4) (nomark _)))))) (pss_one (ps_ret (pe_bl))) (pss_nil)) (pss_cons (ps_if (pt_cmpR (op_neG hr.units) (pe_op op_add3 (pe_op op_add3 (pe_slice sl_2 (pv 0) (po_none) (po_some (pv 3))) (pv 5)) (pe_slice sl_2 (pv 0) (po_some (pe_op op_add3 (pv 3) (pe_callB call_lenG (by rfl) T.len_ (by decide +kernel) (pa_cons (pv 4) (pa_nil))))) (po_none))) (pv 1) (nomark _)) (pss_one (ps_ret (pe_bl))) (pss_nil)) (pss_cons (ps_if (PW.pt (pw_and (pt_cmpR op_lt (pv 3) (pe_callB (call_min2 rfl) (by rfl) T.min_ (by decide +kernel) (pa_cons (pe_callB call_lenG (by rfl) T.len_ (by decide +kernel) (pa_cons (pv 0) (pa_nil))) (pa_cons (pe_callB call_lenG (by rfl) T.len_ (by decide +kernel) (pa_cons (pv 1) (pa_nil))) (pa_nil)))) (nomark _)) (pw_and1 (pt_cmpR (op_eqG hr.units) (pe_ix ix_seq (pv 0) (pv 3) (fun _ _ => rfl)) (pe_ix ix_seq (pv 1) (pv 3) (fun _ _ => rfl)) (nomark _))))) (pss_one (ps_ret (pe_bl))) (pss_nil)) (pss_one (ps_ret (pe_or (pe_cmpR (op_eqG hr.units) (pv 4) (pe_str) (nomark _)) (pe_or (pe_cmpR (op_eqG hr.units) (pv 5) (pe_str) (nomark _)) (pe_one (pe_cmpR (op_neG hr.units) (pe_ix ix_seq (pv 4) (pe_un un_neg (pe_int)) (fun _ _ => rfl)) (pe_ix ix_seq (pv 5) (pe_un un_neg (pe_int)) (fun _ _ => rfl)) (nomark _))))))))))))
theorem d_l_law (T : TF A mg)  {f : Addr} {fd : FuncData} (F : FunD A.K "law" "law" (defArgs s_l_law) (defBody s_l_law) (defScope s_l_law) [] [] f fd) {f_l_text_by : Addr} {fd_l_text_by : FuncData} (G_l_text_by : FnAt P w A.K mg base "_law_text_by" 2 a_l_text_by (sp_l_text_by A) f_l_text_by fd_l_text_by) {f_l_next_text : Addr} {fd_l_next_text : FuncData} (G_l_next_text : FnAt P w A.K mg base "_law_next_text" 3 a_l_next_text (sp_l_next_text A) f_l_next_text fd_l_next_text) {f_change_of : Addr} {fd_change_of : FuncData} (G_change_of : FnAt P w A.K mg base "change_of" 2 a_change_of (sp_change_of A) f_change_of fd_change_of) {f_l_left_by : Addr} {fd_l_left_by : FuncData} (G_l_left_by : FnAt P w A.K mg base "_law_left_by" 1 a_l_left_by (sp_l_left_by A) f_l_left_by fd_l_left_by) {f_l_cell_at : Addr} {fd_l_cell_at : FuncData} (G_l_cell_at : FnAt P w A.K mg base "_law_cell_at" 1 a_l_cell_at (sp_l_cell_at A) f_l_cell_at fd_l_cell_at) {f_l_by_turns : Addr} {fd_l_by_turns : FuncData} (G_l_by_turns : FnAt P w A.K mg base "_law_by_turns" 2 a_l_by_turns (sp_l_by_turns A) f_l_by_turns fd_l_by_turns) {f_l_change : Addr} {fd_l_change : FuncData} (G_l_change : FnAt P w A.K mg base "_law_change" 2 a_l_change (sp_l_change A) f_l_change fd_l_change) {f_l_leads : Addr} {fd_l_leads : FuncData} (G_l_leads : FnAt P w A.K mg base "_law_leads" 1 a_l_leads (sp_l_leads A) f_l_leads fd_l_leads) : FnOk P w A.K mg base CX0 4 f fd a_l_law (sp_l_law A) := by
  refine F.ok (k := 3) sc_l_law (fun vs H Q E h => ?_) (fun cdv A2 outer s H vs Q E hr h => ⟨t_l_law A E, ?_, p_l_law A  h⟩)
  · unfold sp_l_law at h
    (repeat (obtain ⟨_, h⟩ := h)); subst_vars; rfl
  · have hr_1 := hr.mono (show 1 ≤ 3 by decide)
    have hr_2 := hr.mono (show 2 ≤ 3 by decide)
    have hr_3 := hr.mono (show 3 ≤ 3 by decide)
    exact pss_cons (ps_set (i := 1) sc_l_law.nd rfl (Or.inl rfl) (pe_op op_mod (pe_call G_l_cell_at.ok hr_1 (by rfl) G_l_cell_at.mg G_l_cell_at.kp G_l_cell_at.b .nil (passL) (pa_cons (pv 0) (pa_cons (pe_int) (pa_nil)))) (pe_int))) (pss_cut (ps_if (pt_cmpR (op_eqG hr.units) (pe_op op_mod (pe_op op_fdiv (pe_call G_l_cell_at.ok hr_1 (by rfl) G_l_cell_at.mg G_l_cell_at.kp G_l_cell_at.b .nil (passL) (pa_cons (pv 0) (pa_cons (pe_int) (pa_nil)))) (pe_int)) (pe_int)) (pe_int) (nomark _)) (pss_one (ps_set (i := 1) sc_l_law.nd rfl (Or.inl rfl) (pe_op op_mod (pe_op op_fdiv (pe_call G_l_cell_at.ok hr_1 (by rfl) G_l_cell_at.mg G_l_cell_at.kp G_l_cell_at.b .nil (passL) (pa_cons (pv 0) (pa_cons (pe_int) (pa_nil)))) (pe_int)) (pe_int)))) (pss_nil)) (pss_cut (ps_if (pt_cmpR (op_eqG hr.units) (pe_op op_mod (pe_op op_fdiv (pe_call G_l_cell_at.ok hr_1 (by rfl) G_l_cell_at.mg G_l_cell_at.kp G_l_cell_at.b .nil (passL) (pa_cons (pv 0) (pa_cons (pe_int) (pa_nil)))) (pe_int)) (pe_int)) (pe_int) (nomark _)) (pss_one (ps_set (i := 1) sc_l_law.nd rfl (Or.inl rfl) (pe_op op_mod (pe_op op_fdiv (pe_call G_l_cell_at.ok hr_1 (by rfl) G_l_cell_at.mg G_l_cell_at.kp G_l_cell_at.b .nil (passL) (pa_cons (pv 0) (pa_cons (pe_int) (pa_nil)))) (pe_int)) (pe_int)))) (pss_nil)) (pss_cons (ps_set (i := 2) sc_l_law.nd rfl (Or.inl rfl) (pe_call G_l_text_by.ok hr_2 (by rfl) G_l_text_by.mg G_l_text_by.kp G_l_text_by.b .nil (passL) (pa_cons (pe_call G_l_cell_at.ok hr_1 (by rfl) G_l_cell_at.mg G_l_cell_at.kp G_l_cell_at.b .nil (passL) (pa_cons (pv 0) (pa_cons (pe_int) (pa_nil)))) (pa_cons (pv 1) (pa_nil))))) (pss_cut (ps_if (pt_cmpR (op_eqG hr.units) (pe_op op_mod (pe_call G_l_cell_at.ok hr_1 (by rfl) G_l_cell_at.mg G_l_cell_at.kp G_l_cell_at.b .nil (passL) (pa_cons (pv 0) (pa_cons (pe_int) (pa_nil)))) (pe_int)) (pe_int) (nomark _)) (pss_one (ps_set (i := 2) sc_l_law.nd rfl (Or.inl rfl) (pe_call G_l_by_turns.ok hr_2 (by rfl) G_l_by_turns.mg G_l_by_turns.kp G_l_by_turns.b .nil (passL) (pa_cons (pe_call G_l_cell_at.ok hr_1 (by rfl) G_l_cell_at.mg G_l_cell_at.kp G_l_cell_at.b .nil (passL) (pa_cons (pv 0) (pa_cons (pe_int) (pa_nil)))) (pa_cons (pv 1) (pa_nil)))))) (pss_nil)) (pss_cons (ps_set (i := 3) sc_l_law.nd rfl (Or.inl rfl) (pe_call G_l_next_text.ok hr_3 (by rfl) G_l_next_text.mg G_l_next_text.kp G_l_next_text.b .nil (passL) (pa_cons (pv 2) (pa_cons (pe_call G_l_cell_at.ok hr_1 (by rfl) G_l_cell_at.mg G_l_cell_at.kp G_l_cell_at.b .nil (passL) (pa_cons (pv 0) (pa_cons (pe_int) (pa_nil)))) (pa_nil))))) (pss_cut (ps_if (pt_cmpR (op_eqG hr.units) (pe_op op_mod (pe_op op_fdiv (pe_call G_l_cell_at.ok hr_1 (by rfl) G_l_cell_at.mg G_l_cell_at.kp G_l_cell_at.b .nil (passL) (pa_cons (pv 0) (pa_cons (pe_int) (pa_nil)))) (pe_int)) (pe_int)) (pe_int) (nomark _)) (pss_cons (ps_set (i := 4) sc_l_law.nd rfl (Or.inl rfl) (pv 2)) (pss_cons (ps_set (i := 2) sc_l_law.nd rfl (Or.inl rfl) (pv 3)) (pss_one (ps_set (i := 3) sc_l_law.nd rfl (Or.inl rfl) (pv 4))))) (pss_nil)) (pss_cons (ps_set (i := 5) sc_l_law.nd rfl (Or.inl rfl) (pe_call G_change_of.ok hr_2 (by rfl) G_change_of.mg G_change_of.kp G_change_of.b .nil (passL) (pa_cons (pv 2) (pa_cons (pv 3) (pa_nil))))) (pss_cons (ps_if (PW.pt (pw_or (pt_not (pt_val (pe_call G_l_change.ok hr_2 (by rfl) G_l_change.mg G_l_change.kp G_l_change.b .nil (passL) (pa_cons (pv 5) (pa_nil))))) (pw_or1 (pt_not (pt_val (pe_call G_l_leads.ok hr_1 (by rfl) G_l_leads.mg G_l_leads.kp G_l_leads.b .nil (passL) (pa_cons (pv 2) (pa_cons (pv 3) (pa_cons (pv 5) (pa_nil)))))))))) (pss_one (ps_ret (pe_bl))) (pss_nil)) (pss_cons (ps_if (pt_cmpR op_gt (pv 1) (pe_int) (nomark _)) (pss_one (ps_ret (pe_bl))) (pss_nil)) (pss_cons (ps_set (i := 6) sc_l_law.nd rfl (Or.inl rfl) (pe_call G_l_left_by.ok hr_1 (by rfl) G_l_left_by.mg G_l_left_by.kp G_l_left_by.b .nil (passL) (pa_cons (pv 2) (pa_cons (pv 3) (pa_nil))))) (pss_one (ps_ret (pe_and (pe_cmpR (op_eqG hr.units) (pe_callB call_lenG (by rfl) T.len_ (by decide +kernel) (pa_cons (pe_ix ix_seq (pv 5) (pe_int) (fun _ _ => rfl)) (pa_nil))) (pe_op op_sub (pe_callB call_lenG (by rfl) T.len_ (by decide +kernel) (pa_cons (pv 2) (pa_nil))) (pv 6)) (nomark _)) (pe_one (pe_cmpR (op_eqG hr.units) (pe_callB call_lenG (by rfl) T.len_ (by decide +kernel) (pa_cons (pe_ix ix_seq (pv 5) (pe_int) (fun _ _ => rfl)) (pa_nil))) (pe_op op_sub (pe_callB call_lenG (by rfl) T.len_ (by decide +kernel) (pa_cons (pv 3) (pa_nil))) (pv 6)) (nomark _))))))))))))))))
end
/-! ### the head -/
def dd_alike_ahead : He.DefD := ⟨("alike_ahead", none), "alike_ahead", "alike_ahead", defArgs s_alike_ahead, defBody s_alike_ahead, defScope s_alike_ahead, [], []⟩
def dd_alike_behind : He.DefD := ⟨("alike_behind", none), "alike_behind", "alike_behind", defArgs s_alike_behind, defBody s_alike_behind, defScope s_alike_behind, [], []⟩
def dd_change_of : He.DefD := ⟨("change_of", none), "change_of", "change_of", defArgs s_change_of, defBody s_change_of, defScope s_change_of, [], []⟩
def dd_l_cell_at : He.DefD := ⟨("_law_cell_at", none), "_law_cell_at", "_law_cell_at", defArgs s_l_cell_at, defBody s_l_cell_at, defScope s_l_cell_at, [], []⟩
def dd_l_whole : He.DefD := ⟨("_law_whole", none), "_law_whole", "_law_whole", defArgs s_l_whole, defBody s_l_whole, defScope s_l_whole, [], []⟩
def dd_l_sign_by : He.DefD := ⟨("_law_sign_by", none), "_law_sign_by", "_law_sign_by", defArgs s_l_sign_by, defBody s_l_sign_by, defScope s_l_sign_by, [], []⟩
def dd_l_text_by : He.DefD := ⟨("_law_text_by", none), "_law_text_by", "_law_text_by", defArgs s_l_text_by, defBody s_l_text_by, defScope s_l_text_by, [], []⟩
def dd_l_next_text : He.DefD := ⟨("_law_next_text", none), "_law_next_text", "_law_next_text", defArgs s_l_next_text, defBody s_l_next_text, defScope s_l_next_text, [], []⟩
def dd_l_change : He.DefD := ⟨("_law_change", none), "_law_change", "_law_change", defArgs s_l_change, defBody s_l_change, defScope s_l_change, [], []⟩
def dd_l_by_turns : He.DefD := ⟨("_law_by_turns", none), "_law_by_turns", "_law_by_turns", defArgs s_l_by_turns, defBody s_l_by_turns, defScope s_l_by_turns, [], []⟩
def dd_l_left_by : He.DefD := ⟨("_law_left_by", none), "_law_left_by", "_law_left_by", defArgs s_l_left_by, defBody s_l_left_by, defScope s_l_left_by, [], []⟩
def dd_l_leads : He.DefD := ⟨("_law_leads", none), "_law_leads", "_law_leads", defArgs s_l_leads, defBody s_l_leads, defScope s_l_leads, [], []⟩
def dd_l_law : He.DefD := ⟨("law", none), "law", "law", defArgs s_l_law, defBody s_l_law, defScope s_l_law, [], []⟩
def fn : List He.DefD := [dd_alike_ahead, dd_alike_behind, dd_change_of, dd_l_cell_at, dd_l_whole, dd_l_sign_by, dd_l_text_by, dd_l_next_text, dd_l_change, dd_l_by_turns, dd_l_left_by, dd_l_leads, dd_l_law]
def fa : List He.Fa := [.free "bool", .free "int", .free "isinstance", .free "len", .free "max", .free "min", .free "range", .free "str", .free "tuple", .glo "alike_ahead", .glo "alike_behind", .glo "change_of", .glo "_law_cell_at", .glo "_law_whole", .glo "_law_sign_by", .glo "_law_text_by", .glo "_law_next_text", .glo "_law_change", .glo "_law_by_turns", .glo "_law_left_by", .glo "_law_leads", .glo "law"]
def ex (K : PySem.W.Frag) : Bool := true
def loose0 : List Str := ["alike_ahead", "alike_behind", "change_of", "_law_cell_at", "_law_whole", "_law_sign_by", "_law_text_by", "_law_next_text", "_law_change", "_law_by_turns", "_law_left_by", "_law_leads"]
def loose : List Str := loose0
abbrev R : PySem.W.OpenRow := PySem.W.OpenLaw.row PySem.Challenge.rw_packdelta_k03_whole_least_change
abbrev hk : PySem.W.Hook := hookP 5 fa fn ex
def ob (s : PySem.W.SharedT) : He.AlD × Bool := obsP 5 fa fn ex (HandSHeadRun.getT s)
theorem ob_eq (s : PySem.W.SharedT) : ob s = hk.obs s.abs := obsP_eq (HandSHeadRun.getT_eq s)
theorem run (w : World) : HandSHeadRun.RunEq R (PySem.W.view R.prog [14]) hk ob 4000 loose w := by
  intro os
  open PyProof.Rows in kernel_rfl
abbrev adOf (K : PySem.W.Frag) : Ad := ⟨K, 0, 0, 0, 0, 0, 0, 0, 0⟩
theorem facts {P : Program} {w : World} {K : PySem.W.Frag} {h : Heap} {mg : Str → Option Value} {f : Addr} (X : K.In h) (G : h.Ns mainGlobals mg) (hfa : mg ("law" : Str) = some (.ref f)) (c : He.SaysD fa fn K) (cx : ex K = true) :
    ∃ fd : FuncData, (∀ (s : Shared) (v : Value), BindsTo s fd ⟨[v], []⟩ [("_law_script", v)]) ∧ ∀ base : Heap, K.In base → base.Ns mainGlobals mg → FnOk P w K mg base CX0 4 f fd ["_law_script"] (sp_l_law (adOf K)) := by
  obtain ⟨fd_alike_ahead, F_alike_ahead⟩ := c.def_ 0 (d := dd_alike_ahead) rfl
  obtain ⟨fd_alike_behind, F_alike_behind⟩ := c.def_ 1 (d := dd_alike_behind) rfl
  obtain ⟨fd_change_of, F_change_of⟩ := c.def_ 2 (d := dd_change_of) rfl
  obtain ⟨fd_l_cell_at, F_l_cell_at⟩ := c.def_ 3 (d := dd_l_cell_at) rfl
  obtain ⟨fd_l_whole, F_l_whole⟩ := c.def_ 4 (d := dd_l_whole) rfl
  obtain ⟨fd_l_sign_by, F_l_sign_by⟩ := c.def_ 5 (d := dd_l_sign_by) rfl
  obtain ⟨fd_l_text_by, F_l_text_by⟩ := c.def_ 6 (d := dd_l_text_by) rfl
  obtain ⟨fd_l_next_text, F_l_next_text⟩ := c.def_ 7 (d := dd_l_next_text) rfl
  obtain ⟨fd_l_change, F_l_change⟩ := c.def_ 8 (d := dd_l_change) rfl
  obtain ⟨fd_l_by_turns, F_l_by_turns⟩ := c.def_ 9 (d := dd_l_by_turns) rfl
  obtain ⟨fd_l_left_by, F_l_left_by⟩ := c.def_ 10 (d := dd_l_left_by) rfl
  obtain ⟨fd_l_leads, F_l_leads⟩ := c.def_ 11 (d := dd_l_leads) rfl
  obtain ⟨fd_l_law, F_l_law⟩ := c.def_ 12 (d := dd_l_law) rfl
  have e := hfa.symm.trans (He.glo_ok X G (c.fact 21 (f := .glo "law") rfl))
  cases e
  have T : TF (adOf K) mg := ⟨by exact He.free_ok X G (c.fact 0 (f := .free "bool") rfl), by exact He.free_ok X G (c.fact 1 (f := .free "int") rfl), by exact He.free_ok X G (c.fact 2 (f := .free "isinstance") rfl), by exact He.free_ok X G (c.fact 3 (f := .free "len") rfl), by exact He.free_ok X G (c.fact 4 (f := .free "max") rfl), by exact He.free_ok X G (c.fact 5 (f := .free "min") rfl), by exact He.free_ok X G (c.fact 6 (f := .free "range") rfl), by exact He.free_ok X G (c.fact 7 (f := .free "str") rfl), by exact He.free_ok X G (c.fact 8 (f := .free "tuple") rfl)⟩

  have b := FunD.bindsA (ps := ["_law_script"]) F_l_law fun _ _ _ _ _ _ us hl => match us, hl with | [_], _ => rfl
  refine ⟨fd_l_law, fun s v => b s [v] rfl, fun base _ _ => ?_⟩
  have G_alike_ahead : FnAt P w K mg base "alike_ahead" 1 a_alike_ahead (sp_alike_ahead (adOf K)) _ fd_alike_ahead := ⟨d_alike_ahead T  F_alike_ahead , He.glo_ok X G (c.fact 9 (f := .glo "alike_ahead") rfl), F_alike_ahead.kp, FunD.bindsN F_alike_ahead fun _ _ _ _ _ _ us hl => match us, hl with | [_, _], _ => rfl⟩
  have G_alike_behind : FnAt P w K mg base "alike_behind" 1 a_alike_behind (sp_alike_behind (adOf K)) _ fd_alike_behind := ⟨d_alike_behind T  F_alike_behind , He.glo_ok X G (c.fact 10 (f := .glo "alike_behind") rfl), F_alike_behind.kp, FunD.bindsN F_alike_behind fun _ _ _ _ _ _ us hl => match us, hl with | [_, _, _], _ => rfl⟩
  have G_l_cell_at : FnAt P w K mg base "_law_cell_at" 1 a_l_cell_at (sp_l_cell_at (adOf K)) _ fd_l_cell_at := ⟨d_l_cell_at T  F_l_cell_at , He.glo_ok X G (c.fact 12 (f := .glo "_law_cell_at") rfl), F_l_cell_at.kp, FunD.bindsN F_l_cell_at fun _ _ _ _ _ _ us hl => match us, hl with | [_, _], _ => rfl⟩
  have G_l_whole : FnAt P w K mg base "_law_whole" 1 a_l_whole (sp_l_whole (adOf K)) _ fd_l_whole := ⟨d_l_whole T  F_l_whole , He.glo_ok X G (c.fact 13 (f := .glo "_law_whole") rfl), F_l_whole.kp, FunD.bindsN F_l_whole fun _ _ _ _ _ _ us hl => match us, hl with | [_], _ => rfl⟩
  have G_l_sign_by : FnAt P w K mg base "_law_sign_by" 1 a_l_sign_by (sp_l_sign_by (adOf K)) _ fd_l_sign_by := ⟨d_l_sign_by T  F_l_sign_by , He.glo_ok X G (c.fact 14 (f := .glo "_law_sign_by") rfl), F_l_sign_by.kp, FunD.bindsN F_l_sign_by fun _ _ _ _ _ _ us hl => match us, hl with | [_], _ => rfl⟩
  have G_l_left_by : FnAt P w K mg base "_law_left_by" 1 a_l_left_by (sp_l_left_by (adOf K)) _ fd_l_left_by := ⟨d_l_left_by T  F_l_left_by , He.glo_ok X G (c.fact 19 (f := .glo "_law_left_by") rfl), F_l_left_by.kp, FunD.bindsN F_l_left_by fun _ _ _ _ _ _ us hl => match us, hl with | [_, _], _ => rfl⟩
  have G_l_leads : FnAt P w K mg base "_law_leads" 1 a_l_leads (sp_l_leads (adOf K)) _ fd_l_leads := ⟨d_l_leads T  F_l_leads , He.glo_ok X G (c.fact 20 (f := .glo "_law_leads") rfl), F_l_leads.kp, FunD.bindsN F_l_leads fun _ _ _ _ _ _ us hl => match us, hl with | [_, _, _], _ => rfl⟩
  have G_change_of : FnAt P w K mg base "change_of" 2 a_change_of (sp_change_of (adOf K)) _ fd_change_of := ⟨d_change_of T  F_change_of G_alike_ahead G_alike_behind, He.glo_ok X G (c.fact 11 (f := .glo "change_of") rfl), F_change_of.kp, FunD.bindsN F_change_of fun _ _ _ _ _ _ us hl => match us, hl with | [_, _], _ => rfl⟩
  have G_l_text_by : FnAt P w K mg base "_law_text_by" 2 a_l_text_by (sp_l_text_by (adOf K)) _ fd_l_text_by := ⟨d_l_text_by T  F_l_text_by G_l_sign_by, He.glo_ok X G (c.fact 15 (f := .glo "_law_text_by") rfl), F_l_text_by.kp, FunD.bindsN F_l_text_by fun _ _ _ _ _ _ us hl => match us, hl with | [_, _], _ => rfl⟩
  have G_l_change : FnAt P w K mg base "_law_change" 2 a_l_change (sp_l_change (adOf K)) _ fd_l_change := ⟨d_l_change T  F_l_change G_l_whole, He.glo_ok X G (c.fact 17 (f := .glo "_law_change") rfl), F_l_change.kp, FunD.bindsN F_l_change fun _ _ _ _ _ _ us hl => match us, hl with | [_], _ => rfl⟩
  have G_l_by_turns : FnAt P w K mg base "_law_by_turns" 2 a_l_by_turns (sp_l_by_turns (adOf K)) _ fd_l_by_turns := ⟨d_l_by_turns T  F_l_by_turns G_l_sign_by, He.glo_ok X G (c.fact 18 (f := .glo "_law_by_turns") rfl), F_l_by_turns.kp, FunD.bindsN F_l_by_turns fun _ _ _ _ _ _ us hl => match us, hl with | [_, _], _ => rfl⟩
  have G_l_next_text : FnAt P w K mg base "_law_next_text" 3 a_l_next_text (sp_l_next_text (adOf K)) _ fd_l_next_text := ⟨d_l_next_text T  F_l_next_text G_l_text_by G_l_sign_by, He.glo_ok X G (c.fact 16 (f := .glo "_law_next_text") rfl), F_l_next_text.kp, FunD.bindsN F_l_next_text fun _ _ _ _ _ _ us hl => match us, hl with | [_, _], _ => rfl⟩
  exact d_l_law T  F_l_law G_l_text_by G_l_next_text G_change_of G_l_left_by G_l_cell_at G_l_by_turns G_l_change G_l_leads
end Pk
open PySem PySem.W PySem.Calls PyProof.Rows
set_option maxHeartbeats 0 in
theorem PySem.Challenge.cw_packdelta_k03_whole_least_change_holds : PySem.Challenge.rw_packdelta_k03_whole_least_change.Holds := by
  w_on; o_law
  refine HandSHeadRun.head_any (r := OpenLaw.row PySem.Challenge.rw_packdelta_k03_whole_least_change) (q := view (OpenLaw.row PySem.Challenge.rw_packdelta_k03_whole_least_change).prog [14]) (H := Pk.hk) (ob := Pk.ob) (M := 4000) (loose := Pk.loose)
    (d := HandSHeadRun.topDef (OpenLaw.row PySem.Challenge.rw_packdelta_k03_whole_least_change).prog 14) (kwd := []) Pk.ob_eq (by kernel_rfl) (fun s => by kernel_rfl) Pk.run (by kernel_rfl) (by kernel_rfl) (by kernel_rfl) (by rfl)
    (by first | assumption | decide +kernel) (by decide +kernel) ⟨rfl, rfl, rfl, rfl, rfl, by decide +kernel⟩ ?hw ?hc
  case hw => w_witness2
  case hc =>
    refine L2.walk_ofE (l := PySem.Challenge.rw_packdelta_k03_whole_least_change) (n := 63) (k := 4) (x := "_law_script") (CX := L2.CX0) rfl (by decide) (by kernel_rfl) ⟨rfl, by decide, by decide⟩ ?F ?cx
    case cx => exact fun _ _ _ _ z => z
    intro w mg fa h Y G hmg0
    obtain ⟨K, KX, c, cx⟩ := Y
    have hmg : mg ("law" : PySem.Str) = some (.ref fa) := by
      have e : (HandSHeadRun.topDef (OpenLaw.row PySem.Challenge.rw_packdelta_k03_whole_least_change).prog 14).name = ("law" : PySem.Str) := by kernel_rfl
      rw [← e]
      exact hmg0
    obtain ⟨fd, hb, hF⟩ := Pk.facts (P := (PySem.Challenge.rw_packdelta_k03_whole_least_change).prog) (w := w) KX G hmg c cx
    exact ⟨K, fd, Pk.sp_l_law (Pk.adOf K), KX, hb, fun H a ns hl _ hS => Pk.end_law a ns hl hS (fun _ => rfl), hF⟩

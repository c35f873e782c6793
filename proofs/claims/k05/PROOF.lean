import PyProof.Rows.All
import Wide.All
import OpenK.AllK
import Wide.FinOn
import KE.KStateDown
import HandS.ForMost
import HandS.Exc
import HandS.TryOnly
import HandS.ExcOwn
import HandS.WordsExc
import HandS.TryMany
import HandS.IsInst
import HandS.ExcIs
import HandS.More
import HandS.DeepEq
import HandS.DictComp
import HandS.Walk
import HandS.Codes
import HandS.SuiteRaise
import HandS.Defaults
import HandS.HeadHook2
import HandS.Head0
import HandS.Head1
import HandS.Head2
import HandS.HeadEnd
import PySem.Challenge.RW_packdelta_k05_reach_and_middle
set_option Elab.async false
set_option linter.all false
set_option maxRecDepth 100000
set_option maxHeartbeats 4000000
/-! PkA: one lemma for each reading, so that a reading is walked by its head. -/
namespace Pk
open PySem PySem.Spec L2
open C8 (tCut pss_cut)

/-- the addresses that a row's text has, by name -/
structure Ad where
  K : PySem.W.Frag
  cPack : Addr
  cBadBound : Addr
  cBadRows : Addr
  cInRing : Addr
  cNoFit : Addr
  cNoVersion : Addr
  cTooFar : Addr
  cPackError : Addr

/-! ### texts as lists of signs -/
abbrev S (l : List Nat) : Str := ⟨l.toArray⟩
theorem S_len (l : List Nat) : (S l).length = l.length := by simp [Str.length]
theorem S_app (a b : List Nat) : (S a) ++ (S b) = S (a ++ b) := by
  show Str.append (S a) (S b) = _
  simp [Str.append]
theorem S_inj {a b : List Nat} (h : S a = S b) : a = b := by
  have := congrArg (fun s : Str => s.cps.toList) h
  simpa using this
theorem S_of (z : Str) : ∃ l, z = S l := ⟨z.cps.toList, by cases z; simp⟩
/-- signs that there are -/
abbrev Ok (l : List Nat) : Prop := ∀ c ∈ l, c < 1114112
theorem lit (s : String) (n : Nat) (h : (Str.ofString s).length = n) (h2 : ((Str.ofString s).cps.toList.all fun c => decide (c < 1114112)) = true) : ∃ l, Str.ofString s = S l ∧ l.length = n ∧ Ok l := by
  obtain ⟨l, e⟩ := S_of (Str.ofString s)
  refine ⟨l, e, by rw [← S_len, ← e, h], fun c hc => ?_⟩
  rw [e] at h2
  have h3 : ∀ x, x ∈ l → x < 1114112 := by simpa using h2
  exact h3 c hc
theorem S_lit (s : String) (l : List Nat) (h : Str.ofString s = S l) : (Str.ofString s) = S l := h
def cutL (l : List Nat) (lo hi : Option Int) : List Nat := (l.drop (HT.sIx l.length 0 lo)).take (HT.sIx l.length l.length hi - HT.sIx l.length 0 lo)
theorem S_cut (l : List Nat) (lo hi : Option Int) : cutS (S l) lo hi = S (cutL l lo hi) := by
  unfold cutS cutL
  rw [S_len]

/-! ### operators of several kinds -/
def rAdd3 : R2 := fun x y H Q => (∃ i j, x = .int i ∧ y = .int j ∧ Q (.int (i + j)) H) ∨ (∃ i j, x = .str i ∧ y = .str j ∧ i.length + j.length ≤ sizeLine ∧ Q (.str (i ++ j)) H) ∨ rCat x y H Q
theorem op_add3 {X : Cx} : OpR X (binaryOp .Add) rAdd3 := OpR.or op_add (OpR.or op_add_str op_cat)
def rSub : R2 := rI0 fun i j => .int (i - j)
def rMul : R2 := rI CMul fun i j => .int (i * j)
def rDiv : R2 := rI CDiv fun i j => .int (i / j)
def rMod : R2 := rI (fun _ j => 0 < j) fun i j => .int (i % j)
def rPow : R2 := rI CPow fun i j => .int (i ^ j.toNat)
def rNeg : V → Hp → VK → Prop := rU fun i => .int (-i)
def rLt : R2 := rI0 fun i j => .bl (decide (i < j))
def rLe : R2 := rI0 fun i j => .bl (decide (i ≤ j))
def rGt : R2 := rI0 fun i j => .bl (decide (j < i))
def rGe : R2 := rI0 fun i j => .bl (decide (j ≤ i))
def rEqG (K : PySem.W.Frag) : R2 := fun x y H Q => rEq x y H Q ∨ rEqD K x y H Q ∨ rEqDA x y H Q ∨ rEqV K x y H Q
def rNeG (K : PySem.W.Frag) : R2 := fun x y H Q => rNe x y H Q ∨ rNeD K x y H Q ∨ rNeDA x y H Q
theorem op_eqG {X : Cx} (hu : X.A.units + 64 < cLine) : OpR X (compareOp .Eq) (rEqG X.K) := OpR.or op_eq (OpR.or (op_eqD hu) (OpR.or (op_eq_dictA (by omega)) (op_eqV hu)))
theorem op_neG {X : Cx} (hu : X.A.units + 64 < cLine) : OpR X (compareOp .NotEq) (rNeG X.K) := OpR.or op_ne (OpR.or (op_neD hu) (op_ne_dictA (by omega)))
def rSl2 (K : PySem.W.Frag) : V → Option Int → Option Int → Hp → VK → Prop := fun x lo hi H Q => rSlL K x lo hi H Q ∨ rSlS x lo hi H Q
theorem sl_2 {X : Cx} : SlR X (rSl2 X.K) := SlR.or sl_list sl_str
theorem callR_or {X : Cx} {f : Value} {r r' : List V → Hp → VK → Prop} (h : CallR X f r) (h' : CallR X f r') : CallR X f (fun xs H Q => r xs H Q ∨ r' xs H Q) := by
  intro pins s σ H xs us Q I rv hw
  rcases hw with hw | hw
  · exact h pins s σ H xs us Q I rv hw
  · exact h' pins s σ H xs us Q I rv hw
def rLenG (K : PySem.W.Frag) : List V → Hp → VK → Prop := fun xs H Q => (∃ p ys, xs = [.ref p] ∧ (SqL K H p ys ∨ SqT K H p ys) ∧ Q (.int ys.length) H) ∨ (∃ z, xs = [.str z] ∧ z.length ≤ sizeLine ∧ Q (.int z.length) H) ∨ (∃ a kvs, xs = [V.ref a] ∧ H a = some (.dK kvs) ∧ Q (.int kvs.length) H)
theorem call_lenG {X : Cx} : CallR X (.builtin "len") (rLenG X.K) := callR_or call_len_seq (callR_or call_len_str call_lenD)
def rListG (K : PySem.W.Frag) : List V → Hp → VK → Prop := fun xs H Q => (∃ p ys, xs = [.ref p] ∧ (SqL K H p ys ∨ SqT K H p ys) ∧ ∀ l, H l = none → Q (.ref l) (upd H l (.lst ys))) ∨ (∃ (a : Addr) (kvs : List (Key × V)), xs = [.ref a] ∧ Rd H a (.dK kvs) ∧ ∀ p, H p = none → Q (.ref p) (upd H p (.lst (kvs.map fun kv => kV kv.1))))
theorem call_listG {X : Cx} (hc : X.calm = true) : CallR X (.type "list") (rListG X.K) := callR_or call_list_of (call_listD hc)
def rDictD : List V → Hp → VK → Prop := fun xs H Q => ∃ (a : Addr) (kvs : List (Key × V)), xs = [.ref a] ∧ Rd H a (.dK kvs) ∧ ∀ p, H p = none → Q (.ref p) (upd H p (.dK kvs))
def rSortedDI : List V → Hp → VK → Prop := fun xs H Q => ∃ (a : Addr) (kvs : List (Key × V)) (ks : List Int), xs = [.ref a] ∧ Rd H a (.dK kvs) ∧ kvs.map (·.1) = ks.map Sum.inl ∧ ks.length < 64 ∧ ∀ (ys : List Int) (p : Addr), ys.Perm ks → ys.Pairwise (· ≤ ·) → H p = none → Q (.ref p) (upd H p (.lst (ys.map V.int)))
def rStrI : List V → Hp → VK → Prop := fun xs H Q => ∃ i, xs = [.int i] ∧ i.natAbs.log2 < 1920 ∧ Q (.str (toString i)) H
def rInt1 : List V → Hp → VK → Prop := fun xs H Q => (∃ i, xs = [.int i] ∧ Q (.int i) H) ∨ ∃ k, xs = [.bl k] ∧ Q (.int (if k then 1 else 0)) H
def rMax2 : List V → Hp → VK → Prop := fun xs H Q => ∃ i j, xs = [.int i, .int j] ∧ Q (.int (if j > i then j else i)) H
def rMin2 : List V → Hp → VK → Prop := fun xs H Q => ∃ i j, xs = [.int i, .int j] ∧ Q (.int (if j < i then j else i)) H
def rJoin (K : PySem.W.Frag) : V → List V → Hp → VK → Prop := fun x xs H Q => ∃ a p, ∃ ys : List Str, x = .str a ∧ xs = [.ref p] ∧ (SqL K H p (ys.map V.str) ∨ SqT K H p (ys.map V.str)) ∧ (ys.map (·.length)).sum + ys.length * a.length ≤ 16777216 ∧ Q (.str (Txt.join a ys)) H
def tRaise (C : Addr) (E : XK) : TS := fun _ _ H => E (.ref C) none H

/-! ### readings by their heads; the ends in the form ⟨nx, rt, bk, ct⟩ -/
section
variable {t u : TS} {nx : St → Hp → Prop} {rt : VK} {bk ct : St → Hp → Prop} {σ : St} {H : Hp} {te ta tb : TE} {g : TG} {tt tu : TT} {Q : VK} {QB : Bool → Hp → Prop} {QA : List V → Hp → Prop}
theorem r_seq (h : t ⟨u ⟨nx, rt, bk, ct⟩, rt, bk, ct⟩ σ H) : tSeq t u ⟨nx, rt, bk, ct⟩ σ H := h
theorem r_cut (Mid : St → Hp → Prop) (h : t ⟨Mid, rt, bk, ct⟩ σ H) (h2 : ∀ σ' H', Mid σ' H' → u ⟨nx, rt, bk, ct⟩ σ' H') : tCut t u ⟨nx, rt, bk, ct⟩ σ H := ⟨Mid, h, h2⟩
theorem r_seqD {D : Ends} (h : t ⟨u D, D.rt, D.bk, D.ct⟩ σ H) : tSeq t u D σ H := h
theorem r_next (h : nx σ H) : tNext ⟨nx, rt, bk, ct⟩ σ H := h
theorem r_brk (h : bk σ H) : tBreak ⟨nx, rt, bk, ct⟩ σ H := h
theorem r_asg (h : te σ H fun x H1 => g x σ H1 nx) : tAsg te g ⟨nx, rt, bk, ct⟩ σ H := h
theorem r_drop (h : te σ H fun _ H1 => nx σ H1) : tDrop te ⟨nx, rt, bk, ct⟩ σ H := h
theorem r_ret (h : te σ H rt) : tRet te ⟨nx, rt, bk, ct⟩ σ H := h
theorem r_ifS (h : tt σ H fun b H1 => if b = true then t ⟨nx, rt, bk, ct⟩ σ H1 else u ⟨nx, rt, bk, ct⟩ σ H1) : tIfS tt t u ⟨nx, rt, bk, ct⟩ σ H := h
theorem r_ite {b : Bool} {A B : Prop} (h1 : b = true → A) (h2 : b = false → B) : if b = true then A else B := by
  cases b
  · rw [if_neg Bool.false_ne_true]; exact h2 rfl
  · rw [if_pos rfl]; exact h1 rfl
theorem r_dec {p : Prop} [Decidable p] {A B : Prop} (h1 : p → A) (h2 : ¬ p → B) : if decide p = true then A else B := by
  by_cases h : p
  · rw [decide_eq_true h, if_pos rfl]; exact h1 h
  · rw [decide_eq_false h, if_neg Bool.false_ne_true]; exact h2 h
theorem r_ndec {p : Prop} [Decidable p] {A B : Prop} (h1 : ¬ p → A) (h2 : p → B) : if (!decide p) = true then A else B := by
  by_cases h : p
  · rw [decide_eq_true h]; exact h2 h
  · rw [decide_eq_false h]; exact h1 h
theorem r_nT {A B : Prop} (h : B) : if (!true) = true then A else B := by
  rw [if_neg (by decide)]; exact h
theorem r_nF {A B : Prop} (h : A) : if (!false) = true then A else B := by
  rw [if_pos (by decide)]; exact h
theorem r_raise {C : Addr} {E : XK} {D : Ends} (h : E (.ref C) none H) : tRaise C E D σ H := h
/-! tests -/
theorem r_test (h : te σ H fun x H' => ∃ k, x = .bl k ∧ QB k H') : tTest te σ H QB := h
theorem r_B (h : te σ H fun x H1 => ∃ c, x = .bl c ∧ QB c H1) : tB te σ H QB := h
theorem r_bl {b : Bool} (h : QB b H) : ∃ k, V.bl b = .bl k ∧ QB k H := ⟨b, rfl, h⟩
theorem r_and (h : tt σ H fun c H1 => if c = true then tu σ H1 QB else QB false H1) : tAnd tt tu σ H QB := h
theorem r_or (h : tt σ H fun c H1 => if c = true then QB true H1 else tu σ H1 QB) : tOr tt tu σ H QB := h
theorem r_not (h : tt σ H fun c H1 => QB (!c) H1) : tNot tt σ H QB := h
theorem r_isN (h : ta σ H fun x H1 => Q (.bl (decide (x = .non))) H1) : tIsN ta σ H Q := h
theorem r_notN (h : ta σ H fun x H1 => Q (.bl (!decide (x = .non))) H1) : tNotN ta σ H Q := h
/-! values -/
theorem r_var {i : Nat} {v : V} (e : σ[i]? = some (some v)) (h : Q v H) : tVar i σ H Q := ⟨v, e, h⟩
theorem r_c {v : V} (h : Q v H) : tC v σ H Q := h
theorem r_op {r : R2} (h : ta σ H fun x H1 => tb σ H1 fun y H2 => r x y H2 Q) : tOp r ta tb σ H Q := h
theorem r_un {r : V → Hp → VK → Prop} (h : ta σ H fun x H1 => r x H1 Q) : tUn r ta σ H Q := h
theorem r_nil (h : QA [] H) : tNil σ H QA := h
theorem r_cons {tr : TA} (h : ta σ H fun x H1 => tr σ H1 fun xs H2 => QA (x :: xs) H2) : tCons ta tr σ H QA := h
theorem r_andV (h : ta σ H fun x H1 => ∃ c, x = .bl c ∧ if c = true then tb σ H1 Q else Q (.bl false) H1) : tAndV ta tb σ H Q := h
theorem r_orV (h : ta σ H fun x H1 => ∃ c, x = .bl c ∧ if c = true then Q (.bl true) H1 else tb σ H1 Q) : tOrV ta tb σ H Q := h
theorem r_notV (h : ta σ H fun x H1 => ∃ c, x = .bl c ∧ Q (.bl (!c)) H1) : tNotV ta σ H Q := h
theorem r_ifE (h : tt σ H fun c H1 => if c = true then ta σ H1 Q else tb σ H1 Q) : tIf tt ta tb σ H Q := h
theorem r_blP {b : Bool} {P : Bool → Prop} (h : P b) : ∃ c, V.bl b = .bl c ∧ P c := ⟨b, rfl, h⟩
/-! stores to slots -/
theorem r_set {i : Nat} {v : V} {σ' : St} {K : St → Hp → Prop} (e : σ.set i (some v) = σ') (h : K σ' H) : gName i v σ H K := by
  show K (σ.set i (some v)) H
  rw [e]
  exact h
theorem r_v0 {v : V} {t : St} (h : Q v H) : tVar 0 (some v :: t) H Q := ⟨v, rfl, h⟩
theorem r_n0 {y : Option V} {v : V} {t : St} {F : St → Hp → Prop} (h : F (some v :: t) H) : gName 0 v (y :: t) H F := h
theorem r_v1 {x0 : Option V} {v : V} {t : St} (h : Q v H) : tVar 1 (x0 :: some v :: t) H Q := ⟨v, rfl, h⟩
theorem r_n1 {x0 : Option V} {y : Option V} {v : V} {t : St} {F : St → Hp → Prop} (h : F (x0 :: some v :: t) H) : gName 1 v (x0 :: y :: t) H F := h
theorem r_v2 {x0 x1 : Option V} {v : V} {t : St} (h : Q v H) : tVar 2 (x0 :: x1 :: some v :: t) H Q := ⟨v, rfl, h⟩
theorem r_n2 {x0 x1 : Option V} {y : Option V} {v : V} {t : St} {F : St → Hp → Prop} (h : F (x0 :: x1 :: some v :: t) H) : gName 2 v (x0 :: x1 :: y :: t) H F := h
theorem r_v3 {x0 x1 x2 : Option V} {v : V} {t : St} (h : Q v H) : tVar 3 (x0 :: x1 :: x2 :: some v :: t) H Q := ⟨v, rfl, h⟩
theorem r_n3 {x0 x1 x2 : Option V} {y : Option V} {v : V} {t : St} {F : St → Hp → Prop} (h : F (x0 :: x1 :: x2 :: some v :: t) H) : gName 3 v (x0 :: x1 :: x2 :: y :: t) H F := h
theorem r_v4 {x0 x1 x2 x3 : Option V} {v : V} {t : St} (h : Q v H) : tVar 4 (x0 :: x1 :: x2 :: x3 :: some v :: t) H Q := ⟨v, rfl, h⟩
theorem r_n4 {x0 x1 x2 x3 : Option V} {y : Option V} {v : V} {t : St} {F : St → Hp → Prop} (h : F (x0 :: x1 :: x2 :: x3 :: some v :: t) H) : gName 4 v (x0 :: x1 :: x2 :: x3 :: y :: t) H F := h
theorem r_v5 {x0 x1 x2 x3 x4 : Option V} {v : V} {t : St} (h : Q v H) : tVar 5 (x0 :: x1 :: x2 :: x3 :: x4 :: some v :: t) H Q := ⟨v, rfl, h⟩
theorem r_n5 {x0 x1 x2 x3 x4 : Option V} {y : Option V} {v : V} {t : St} {F : St → Hp → Prop} (h : F (x0 :: x1 :: x2 :: x3 :: x4 :: some v :: t) H) : gName 5 v (x0 :: x1 :: x2 :: x3 :: x4 :: y :: t) H F := h
theorem r_v6 {x0 x1 x2 x3 x4 x5 : Option V} {v : V} {t : St} (h : Q v H) : tVar 6 (x0 :: x1 :: x2 :: x3 :: x4 :: x5 :: some v :: t) H Q := ⟨v, rfl, h⟩
theorem r_n6 {x0 x1 x2 x3 x4 x5 : Option V} {y : Option V} {v : V} {t : St} {F : St → Hp → Prop} (h : F (x0 :: x1 :: x2 :: x3 :: x4 :: x5 :: some v :: t) H) : gName 6 v (x0 :: x1 :: x2 :: x3 :: x4 :: x5 :: y :: t) H F := h
theorem r_v7 {x0 x1 x2 x3 x4 x5 x6 : Option V} {v : V} {t : St} (h : Q v H) : tVar 7 (x0 :: x1 :: x2 :: x3 :: x4 :: x5 :: x6 :: some v :: t) H Q := ⟨v, rfl, h⟩
theorem r_n7 {x0 x1 x2 x3 x4 x5 x6 : Option V} {y : Option V} {v : V} {t : St} {F : St → Hp → Prop} (h : F (x0 :: x1 :: x2 :: x3 :: x4 :: x5 :: x6 :: some v :: t) H) : gName 7 v (x0 :: x1 :: x2 :: x3 :: x4 :: x5 :: x6 :: y :: t) H F := h
theorem r_v8 {x0 x1 x2 x3 x4 x5 x6 x7 : Option V} {v : V} {t : St} (h : Q v H) : tVar 8 (x0 :: x1 :: x2 :: x3 :: x4 :: x5 :: x6 :: x7 :: some v :: t) H Q := ⟨v, rfl, h⟩
theorem r_n8 {x0 x1 x2 x3 x4 x5 x6 x7 : Option V} {y : Option V} {v : V} {t : St} {F : St → Hp → Prop} (h : F (x0 :: x1 :: x2 :: x3 :: x4 :: x5 :: x6 :: x7 :: some v :: t) H) : gName 8 v (x0 :: x1 :: x2 :: x3 :: x4 :: x5 :: x6 :: x7 :: y :: t) H F := h
theorem r_v9 {x0 x1 x2 x3 x4 x5 x6 x7 x8 : Option V} {v : V} {t : St} (h : Q v H) : tVar 9 (x0 :: x1 :: x2 :: x3 :: x4 :: x5 :: x6 :: x7 :: x8 :: some v :: t) H Q := ⟨v, rfl, h⟩
theorem r_n9 {x0 x1 x2 x3 x4 x5 x6 x7 x8 : Option V} {y : Option V} {v : V} {t : St} {F : St → Hp → Prop} (h : F (x0 :: x1 :: x2 :: x3 :: x4 :: x5 :: x6 :: x7 :: x8 :: some v :: t) H) : gName 9 v (x0 :: x1 :: x2 :: x3 :: x4 :: x5 :: x6 :: x7 :: x8 :: y :: t) H F := h
theorem r_v10 {x0 x1 x2 x3 x4 x5 x6 x7 x8 x9 : Option V} {v : V} {t : St} (h : Q v H) : tVar 10 (x0 :: x1 :: x2 :: x3 :: x4 :: x5 :: x6 :: x7 :: x8 :: x9 :: some v :: t) H Q := ⟨v, rfl, h⟩
theorem r_n10 {x0 x1 x2 x3 x4 x5 x6 x7 x8 x9 : Option V} {y : Option V} {v : V} {t : St} {F : St → Hp → Prop} (h : F (x0 :: x1 :: x2 :: x3 :: x4 :: x5 :: x6 :: x7 :: x8 :: x9 :: some v :: t) H) : gName 10 v (x0 :: x1 :: x2 :: x3 :: x4 :: x5 :: x6 :: x7 :: x8 :: x9 :: y :: t) H F := h
theorem r_v11 {x0 x1 x2 x3 x4 x5 x6 x7 x8 x9 x10 : Option V} {v : V} {t : St} (h : Q v H) : tVar 11 (x0 :: x1 :: x2 :: x3 :: x4 :: x5 :: x6 :: x7 :: x8 :: x9 :: x10 :: some v :: t) H Q := ⟨v, rfl, h⟩
theorem r_n11 {x0 x1 x2 x3 x4 x5 x6 x7 x8 x9 x10 : Option V} {y : Option V} {v : V} {t : St} {F : St → Hp → Prop} (h : F (x0 :: x1 :: x2 :: x3 :: x4 :: x5 :: x6 :: x7 :: x8 :: x9 :: x10 :: some v :: t) H) : gName 11 v (x0 :: x1 :: x2 :: x3 :: x4 :: x5 :: x6 :: x7 :: x8 :: x9 :: x10 :: y :: t) H F := h
theorem r_v12 {x0 x1 x2 x3 x4 x5 x6 x7 x8 x9 x10 x11 : Option V} {v : V} {t : St} (h : Q v H) : tVar 12 (x0 :: x1 :: x2 :: x3 :: x4 :: x5 :: x6 :: x7 :: x8 :: x9 :: x10 :: x11 :: some v :: t) H Q := ⟨v, rfl, h⟩
theorem r_n12 {x0 x1 x2 x3 x4 x5 x6 x7 x8 x9 x10 x11 : Option V} {y : Option V} {v : V} {t : St} {F : St → Hp → Prop} (h : F (x0 :: x1 :: x2 :: x3 :: x4 :: x5 :: x6 :: x7 :: x8 :: x9 :: x10 :: x11 :: some v :: t) H) : gName 12 v (x0 :: x1 :: x2 :: x3 :: x4 :: x5 :: x6 :: x7 :: x8 :: x9 :: x10 :: x11 :: y :: t) H F := h
theorem r_v13 {x0 x1 x2 x3 x4 x5 x6 x7 x8 x9 x10 x11 x12 : Option V} {v : V} {t : St} (h : Q v H) : tVar 13 (x0 :: x1 :: x2 :: x3 :: x4 :: x5 :: x6 :: x7 :: x8 :: x9 :: x10 :: x11 :: x12 :: some v :: t) H Q := ⟨v, rfl, h⟩
theorem r_n13 {x0 x1 x2 x3 x4 x5 x6 x7 x8 x9 x10 x11 x12 : Option V} {y : Option V} {v : V} {t : St} {F : St → Hp → Prop} (h : F (x0 :: x1 :: x2 :: x3 :: x4 :: x5 :: x6 :: x7 :: x8 :: x9 :: x10 :: x11 :: x12 :: some v :: t) H) : gName 13 v (x0 :: x1 :: x2 :: x3 :: x4 :: x5 :: x6 :: x7 :: x8 :: x9 :: x10 :: x11 :: x12 :: y :: t) H F := h
theorem r_v14 {x0 x1 x2 x3 x4 x5 x6 x7 x8 x9 x10 x11 x12 x13 : Option V} {v : V} {t : St} (h : Q v H) : tVar 14 (x0 :: x1 :: x2 :: x3 :: x4 :: x5 :: x6 :: x7 :: x8 :: x9 :: x10 :: x11 :: x12 :: x13 :: some v :: t) H Q := ⟨v, rfl, h⟩
theorem r_n14 {x0 x1 x2 x3 x4 x5 x6 x7 x8 x9 x10 x11 x12 x13 : Option V} {y : Option V} {v : V} {t : St} {F : St → Hp → Prop} (h : F (x0 :: x1 :: x2 :: x3 :: x4 :: x5 :: x6 :: x7 :: x8 :: x9 :: x10 :: x11 :: x12 :: x13 :: some v :: t) H) : gName 14 v (x0 :: x1 :: x2 :: x3 :: x4 :: x5 :: x6 :: x7 :: x8 :: x9 :: x10 :: x11 :: x12 :: x13 :: y :: t) H F := h
theorem r_v15 {x0 x1 x2 x3 x4 x5 x6 x7 x8 x9 x10 x11 x12 x13 x14 : Option V} {v : V} {t : St} (h : Q v H) : tVar 15 (x0 :: x1 :: x2 :: x3 :: x4 :: x5 :: x6 :: x7 :: x8 :: x9 :: x10 :: x11 :: x12 :: x13 :: x14 :: some v :: t) H Q := ⟨v, rfl, h⟩
theorem r_n15 {x0 x1 x2 x3 x4 x5 x6 x7 x8 x9 x10 x11 x12 x13 x14 : Option V} {y : Option V} {v : V} {t : St} {F : St → Hp → Prop} (h : F (x0 :: x1 :: x2 :: x3 :: x4 :: x5 :: x6 :: x7 :: x8 :: x9 :: x10 :: x11 :: x12 :: x13 :: x14 :: some v :: t) H) : gName 15 v (x0 :: x1 :: x2 :: x3 :: x4 :: x5 :: x6 :: x7 :: x8 :: x9 :: x10 :: x11 :: x12 :: x13 :: x14 :: y :: t) H F := h
theorem r_v16 {x0 x1 x2 x3 x4 x5 x6 x7 x8 x9 x10 x11 x12 x13 x14 x15 : Option V} {v : V} {t : St} (h : Q v H) : tVar 16 (x0 :: x1 :: x2 :: x3 :: x4 :: x5 :: x6 :: x7 :: x8 :: x9 :: x10 :: x11 :: x12 :: x13 :: x14 :: x15 :: some v :: t) H Q := ⟨v, rfl, h⟩
theorem r_n16 {x0 x1 x2 x3 x4 x5 x6 x7 x8 x9 x10 x11 x12 x13 x14 x15 : Option V} {y : Option V} {v : V} {t : St} {F : St → Hp → Prop} (h : F (x0 :: x1 :: x2 :: x3 :: x4 :: x5 :: x6 :: x7 :: x8 :: x9 :: x10 :: x11 :: x12 :: x13 :: x14 :: x15 :: some v :: t) H) : gName 16 v (x0 :: x1 :: x2 :: x3 :: x4 :: x5 :: x6 :: x7 :: x8 :: x9 :: x10 :: x11 :: x12 :: x13 :: x14 :: x15 :: y :: t) H F := h
theorem r_v17 {x0 x1 x2 x3 x4 x5 x6 x7 x8 x9 x10 x11 x12 x13 x14 x15 x16 : Option V} {v : V} {t : St} (h : Q v H) : tVar 17 (x0 :: x1 :: x2 :: x3 :: x4 :: x5 :: x6 :: x7 :: x8 :: x9 :: x10 :: x11 :: x12 :: x13 :: x14 :: x15 :: x16 :: some v :: t) H Q := ⟨v, rfl, h⟩
theorem r_n17 {x0 x1 x2 x3 x4 x5 x6 x7 x8 x9 x10 x11 x12 x13 x14 x15 x16 : Option V} {y : Option V} {v : V} {t : St} {F : St → Hp → Prop} (h : F (x0 :: x1 :: x2 :: x3 :: x4 :: x5 :: x6 :: x7 :: x8 :: x9 :: x10 :: x11 :: x12 :: x13 :: x14 :: x15 :: x16 :: some v :: t) H) : gName 17 v (x0 :: x1 :: x2 :: x3 :: x4 :: x5 :: x6 :: x7 :: x8 :: x9 :: x10 :: x11 :: x12 :: x13 :: x14 :: x15 :: x16 :: y :: t) H F := h
theorem r_v18 {x0 x1 x2 x3 x4 x5 x6 x7 x8 x9 x10 x11 x12 x13 x14 x15 x16 x17 : Option V} {v : V} {t : St} (h : Q v H) : tVar 18 (x0 :: x1 :: x2 :: x3 :: x4 :: x5 :: x6 :: x7 :: x8 :: x9 :: x10 :: x11 :: x12 :: x13 :: x14 :: x15 :: x16 :: x17 :: some v :: t) H Q := ⟨v, rfl, h⟩
theorem r_n18 {x0 x1 x2 x3 x4 x5 x6 x7 x8 x9 x10 x11 x12 x13 x14 x15 x16 x17 : Option V} {y : Option V} {v : V} {t : St} {F : St → Hp → Prop} (h : F (x0 :: x1 :: x2 :: x3 :: x4 :: x5 :: x6 :: x7 :: x8 :: x9 :: x10 :: x11 :: x12 :: x13 :: x14 :: x15 :: x16 :: x17 :: some v :: t) H) : gName 18 v (x0 :: x1 :: x2 :: x3 :: x4 :: x5 :: x6 :: x7 :: x8 :: x9 :: x10 :: x11 :: x12 :: x13 :: x14 :: x15 :: x16 :: x17 :: y :: t) H F := h
theorem r_v19 {x0 x1 x2 x3 x4 x5 x6 x7 x8 x9 x10 x11 x12 x13 x14 x15 x16 x17 x18 : Option V} {v : V} {t : St} (h : Q v H) : tVar 19 (x0 :: x1 :: x2 :: x3 :: x4 :: x5 :: x6 :: x7 :: x8 :: x9 :: x10 :: x11 :: x12 :: x13 :: x14 :: x15 :: x16 :: x17 :: x18 :: some v :: t) H Q := ⟨v, rfl, h⟩
theorem r_n19 {x0 x1 x2 x3 x4 x5 x6 x7 x8 x9 x10 x11 x12 x13 x14 x15 x16 x17 x18 : Option V} {y : Option V} {v : V} {t : St} {F : St → Hp → Prop} (h : F (x0 :: x1 :: x2 :: x3 :: x4 :: x5 :: x6 :: x7 :: x8 :: x9 :: x10 :: x11 :: x12 :: x13 :: x14 :: x15 :: x16 :: x17 :: x18 :: some v :: t) H) : gName 19 v (x0 :: x1 :: x2 :: x3 :: x4 :: x5 :: x6 :: x7 :: x8 :: x9 :: x10 :: x11 :: x12 :: x13 :: x14 :: x15 :: x16 :: x17 :: x18 :: y :: t) H F := h
/-! operators -/
theorem r_add {i j : Int} (h : Q (.int (i + j)) H) : rAdd3 (.int i) (.int j) H Q := .inl ⟨i, j, rfl, rfl, h⟩
theorem r_addS {a b : List Nat} (hl : a.length + b.length ≤ sizeLine) (h : Q (.str (S (a ++ b))) H) : rAdd3 (.str (S a)) (.str (S b)) H Q :=
  .inr (.inl ⟨_, _, rfl, rfl, by rw [S_len, S_len]; exact hl, by rw [S_app]; exact h⟩)
theorem r_sub {i j : Int} (h : Q (.int (i - j)) H) : rSub (.int i) (.int j) H Q := ⟨i, j, rfl, rfl, h⟩
theorem r_mulL {i j : Int} (h1 : -(2 ^ 64) < i ∧ i < 2 ^ 64) (h : Q (.int (i * j)) H) : rMul (.int i) (.int j) H Q := ⟨i, j, rfl, rfl, .inl h1, h⟩
theorem r_mulR {i j : Int} (h1 : -(2 ^ 64) < j ∧ j < 2 ^ 64) (h : Q (.int (i * j)) H) : rMul (.int i) (.int j) H Q := ⟨i, j, rfl, rfl, .inr h1, h⟩
theorem r_div {i j : Int} (h1 : 0 < j ∧ j < 1073741824) (h : Q (.int (i / j)) H) : rDiv (.int i) (.int j) H Q := ⟨i, j, rfl, rfl, h1, h⟩
theorem r_mod {i j : Int} (h1 : 0 < j) (h : Q (.int (i % j)) H) : rMod (.int i) (.int j) H Q := ⟨i, j, rfl, rfl, h1, h⟩
theorem r_pow {i j : Int} (h1 : 0 ≤ j ∧ j ≤ 1000000 ∧ i.natAbs < 2 ^ 64) (h : Q (.int (i ^ j.toNat)) H) : rPow (.int i) (.int j) H Q := ⟨i, j, rfl, rfl, h1, h⟩
theorem r_neg {i : Int} (h : Q (.int (-i)) H) : rNeg (.int i) H Q := ⟨i, rfl, h⟩
theorem r_lt {i j : Int} (h : Q (.bl (decide (i < j))) H) : rLt (.int i) (.int j) H Q := ⟨i, j, rfl, rfl, h⟩
theorem r_le {i j : Int} (h : Q (.bl (decide (i ≤ j))) H) : rLe (.int i) (.int j) H Q := ⟨i, j, rfl, rfl, h⟩
theorem r_gt {i j : Int} (h : Q (.bl (decide (j < i))) H) : rGt (.int i) (.int j) H Q := ⟨i, j, rfl, rfl, h⟩
theorem r_ge {i j : Int} (h : Q (.bl (decide (j ≤ i))) H) : rGe (.int i) (.int j) H Q := ⟨i, j, rfl, rfl, h⟩
variable {K : PySem.W.Frag}
theorem dec_int (i j : Int) : decide (V.int i = V.int j) = decide (i = j) := by
  by_cases e : i = j
  · rw [decide_eq_true e, decide_eq_true (congrArg V.int e)]
  · rw [decide_eq_false e, decide_eq_false fun q => e (V.int.inj q)]
theorem dec_str (a b : List Nat) : decide (V.str (S a) = V.str (S b)) = decide (a = b) := by
  by_cases e : a = b
  · rw [decide_eq_true e, decide_eq_true (by rw [e])]
  · rw [decide_eq_false e, decide_eq_false fun q => e (S_inj (V.str.inj q))]
theorem r_eqI {i j : Int} (h : Q (.bl (decide (i = j))) H) : rEqG K (.int i) (.int j) H Q := .inl ⟨rfl, by rw [dec_int]; exact h⟩
theorem r_eqS {a b : List Nat} (h : Q (.bl (decide (a = b))) H) : rEqG K (.str (S a)) (.str (S b)) H Q := .inl ⟨rfl, by rw [dec_str]; exact h⟩
theorem r_neI {i j : Int} (h : Q (.bl (!decide (i = j))) H) : rNeG K (.int i) (.int j) H Q := .inl ⟨rfl, by rw [dec_int]; exact h⟩
theorem r_neS {a b : List Nat} (h : Q (.bl (!decide (a = b))) H) : rNeG K (.str (S a)) (.str (S b)) H Q := .inl ⟨rfl, by rw [dec_str]; exact h⟩
theorem r_eqV {x y : V} (hs : scal x y = true) (h : Q (.bl (decide (x = y))) H) : rEqG K x y H Q := .inl ⟨hs, h⟩
theorem r_neV {x y : V} (hs : scal x y = true) (h : Q (.bl (!decide (x = y))) H) : rNeG K x y H Q := .inl ⟨hs, h⟩
theorem r_eqD {x y : V} (d e : PyData) (h1 : Dp K H x d) (h2 : Dp K H y e) (s1 : SeqAt.shaped d = true) (s2 : SeqAt.shaped e = true) (h : Q (.bl (PyData.eqv d e)) H) : rEqG K x y H Q := .inr (.inl ⟨d, e, h1, h2, s1, s2, h⟩)
theorem r_neD {x y : V} (d e : PyData) (h1 : Dp K H x d) (h2 : Dp K H y e) (s1 : SeqAt.shaped d = true) (s2 : SeqAt.shaped e = true) (h : Q (.bl (!PyData.eqv d e)) H) : rNeG K x y H Q := .inr (.inl ⟨d, e, h1, h2, s1, s2, h⟩)
/-! slices, items -/
theorem r_sl {r : V → Option Int → Option Int → Hp → VK → Prop} {tl th : TO} (h : te σ H fun x H1 => tl σ H1 fun l H2 => th σ H2 fun v H3 => r x l v H3 Q) : tSl r te tl th σ H Q := h
theorem r_noPart {QO : Option Int → Hp → Prop} (h : QO none H) : tNoPart σ H QO := h
theorem r_part {QO : Option Int → Hp → Prop} (h : te σ H fun x H1 => ∃ i, x = .int i ∧ QO (some i) H1) : tPart te σ H QO := h
theorem r_int {i : Int} {P : Int → Prop} (h : P i) : ∃ k, V.int i = .int k ∧ P k := ⟨i, rfl, h⟩
theorem r_slS {a : List Nat} {lo hi : Option Int} (hl : a.length ≤ sizeLine) (h : Q (.str (S (cutL a lo hi))) H) : rSl2 K (.str (S a)) lo hi H Q :=
  .inr ⟨_, rfl, by rw [S_len]; exact hl, by rw [S_cut]; exact h⟩
theorem r_ixL {p : Addr} {xs : List V} {i : Int} {v : V} (hs : SqL K H p xs) (ha : atI xs i = some v) (h : Q v H) : rIx K (.ref p) (.int i) H Q := .inl ⟨p, xs, i, v, rfl, rfl, hs, ha, h⟩
theorem r_ixT {p : Addr} {xs : List V} {i : Int} {v : V} (hs : SqT K H p xs) (ha : atI xs i = some v) (h : Q v H) : rIx K (.ref p) (.int i) H Q := .inr (.inl ⟨p, xs, i, v, rfl, rfl, hs, ha, h⟩)
theorem r_ixS {a : List Nat} {i : Int} {c : Nat} (hl : a.length ≤ sizeLine) (ha : atI a i = some c) (h : Q (.str (S [c])) H) : rIx K (.str (S a)) (.int i) H Q :=
  .inr (.inr ⟨_, i, c, rfl, rfl, by rw [S_len]; exact hl, by simpa using ha, h⟩)
/-! new objects: the heap behind is told by what it bears -/
def Nw (H : Hp) (o : HO) (Q : VK) : Prop := ∀ p H2, H p = none → Same H H2 → H2 p = some o → Q (.ref p) H2
theorem same_new {H : Hp} {p : Addr} {o : HO} (h : H p = none) : Same H (upd H p o) := fun b u e => by
  rw [upd_ne (ne_of_none e h)]
  exact e
theorem Nw.go {o : HO} (h : Nw H o Q) : ∀ p, H p = none → Q (.ref p) (upd H p o) := fun p hp => h p _ hp (same_new hp) upd_same
def MkT (H : Hp) (xs : List V) (Q : VK) : Prop := xs.length ≤ sizeLine ∧ ∀ p, H p = none → Q (.ref p) (upd H p (.tup xs))
def MkL (H : Hp) (xs : List V) (Q : VK) : Prop := xs.length ≤ sizeLine ∧ ∀ p, H p = none → Q (.ref p) (upd H p (.lst xs))
theorem r_tup {t : TA} (h : t σ H fun xs H1 => MkT H1 xs Q) : tTup t σ H Q := h
theorem r_lst {t : TA} (h : t σ H fun xs H1 => MkL H1 xs Q) : tLst t σ H Q := h
theorem r_mkT {xs : List V} (hl : xs.length ≤ sizeLine) (h : Nw H (.tup xs) Q) : MkT H xs Q := ⟨hl, h.go⟩
theorem r_mkL {xs : List V} (hl : xs.length ≤ sizeLine) (h : Nw H (.lst xs) Q) : MkL H xs Q := ⟨hl, h.go⟩
theorem r_dnew (h : Nw H (.dK []) Q) : tDNewK σ H Q := h.go
theorem sz {n : Nat} (h : n ≤ 16777216) : n ≤ sizeLine := by rw [sizeLine_eq]; exact h
theorem szl {n : Nat} (h : n < 16777216) : n < sizeLine := by rw [sizeLine_eq]; exact h
/-! calls -/
theorem r_call {sp : Sp} {E : XK} {t : TA} (h : t σ H fun vs H1 => sp vs H1 Q E) : tCall sp [] E t σ H Q := by
  unfold tCall
  simpa using h
theorem r_cb {r : List V → Hp → VK → Prop} {t : TA} (h : t σ H fun vs H1 => r vs H1 Q) : tCB r t σ H Q := h
theorem r_lenL {p : Addr} {xs : List V} (hs : SqL K H p xs) (h : Q (.int xs.length) H) : rLenG K [.ref p] H Q := .inl ⟨p, xs, rfl, .inl hs, h⟩
theorem r_lenT {p : Addr} {xs : List V} (hs : SqT K H p xs) (h : Q (.int xs.length) H) : rLenG K [.ref p] H Q := .inl ⟨p, xs, rfl, .inr hs, h⟩
theorem r_lenS {a : List Nat} (hl : a.length ≤ sizeLine) (h : Q (.int a.length) H) : rLenG K [.str (S a)] H Q := .inr (.inl ⟨_, rfl, by rw [S_len]; exact hl, by rw [S_len]; exact h⟩)
theorem r_lenD {p : Addr} {kvs : List (Key × V)} (hs : H p = some (.dK kvs)) (h : Q (.int kvs.length) H) : rLenG K [.ref p] H Q := .inr (.inr ⟨p, kvs, rfl, hs, h⟩)
theorem r_listL {p : Addr} {xs : List V} (hs : SqL K H p xs) (h : Nw H (.lst xs) Q) : rListG K [.ref p] H Q := .inl ⟨p, xs, rfl, .inl hs, h.go⟩
theorem r_listD {p : Addr} {kvs : List (Key × V)} (hs : Rd H p (.dK kvs)) (h : Nw H (.lst (kvs.map fun kv => kV kv.1)) Q) : rListG K [.ref p] H Q := .inr ⟨p, kvs, rfl, hs, h.go⟩
theorem r_dictD {p : Addr} {kvs : List (Key × V)} (hs : Rd H p (.dK kvs)) (h : Nw H (.dK kvs) Q) : rDictD [.ref p] H Q := ⟨p, kvs, rfl, hs, h.go⟩
theorem r_isi {x : V} {t c : String} {b : Bool} (ty : TyX K H x (.type t)) (hb : kitB t c = some b) (h : Q (.bl b) H) : rIsi K [x, .ty c] H Q := ⟨x, _, _, _, b, rfl, .ty c, ty, kit_ty hb, h⟩
theorem r_is_int_int {i : Int} (h : Q (.bl true) H) : rIsi K [.int i, .ty "int"] H Q := r_isi (.base (.int _)) (t := "int") (by decide +kernel) h
theorem r_is_int_bool {i : Int} (h : Q (.bl false) H) : rIsi K [.int i, .ty "bool"] H Q := r_isi (.base (.int _)) (t := "int") (by decide +kernel) h
theorem r_is_int_str {i : Int} (h : Q (.bl false) H) : rIsi K [.int i, .ty "str"] H Q := r_isi (.base (.int _)) (t := "int") (by decide +kernel) h
theorem r_is_int_tuple {i : Int} (h : Q (.bl false) H) : rIsi K [.int i, .ty "tuple"] H Q := r_isi (.base (.int _)) (t := "int") (by decide +kernel) h
theorem r_is_int_list {i : Int} (h : Q (.bl false) H) : rIsi K [.int i, .ty "list"] H Q := r_isi (.base (.int _)) (t := "int") (by decide +kernel) h
theorem r_is_int_dict {i : Int} (h : Q (.bl false) H) : rIsi K [.int i, .ty "dict"] H Q := r_isi (.base (.int _)) (t := "int") (by decide +kernel) h
theorem r_is_str_int {z : Str} (h : Q (.bl false) H) : rIsi K [.str z, .ty "int"] H Q := r_isi (.base (.str _)) (t := "str") (by decide +kernel) h
theorem r_is_str_bool {z : Str} (h : Q (.bl false) H) : rIsi K [.str z, .ty "bool"] H Q := r_isi (.base (.str _)) (t := "str") (by decide +kernel) h
theorem r_is_str_str {z : Str} (h : Q (.bl true) H) : rIsi K [.str z, .ty "str"] H Q := r_isi (.base (.str _)) (t := "str") (by decide +kernel) h
theorem r_is_str_tuple {z : Str} (h : Q (.bl false) H) : rIsi K [.str z, .ty "tuple"] H Q := r_isi (.base (.str _)) (t := "str") (by decide +kernel) h
theorem r_is_str_list {z : Str} (h : Q (.bl false) H) : rIsi K [.str z, .ty "list"] H Q := r_isi (.base (.str _)) (t := "str") (by decide +kernel) h
theorem r_is_str_dict {z : Str} (h : Q (.bl false) H) : rIsi K [.str z, .ty "dict"] H Q := r_isi (.base (.str _)) (t := "str") (by decide +kernel) h
theorem r_is_bl_int {b : Bool} (h : Q (.bl true) H) : rIsi K [.bl b, .ty "int"] H Q := r_isi (.base (.bl _)) (t := "bool") (by decide +kernel) h
theorem r_is_bl_bool {b : Bool} (h : Q (.bl true) H) : rIsi K [.bl b, .ty "bool"] H Q := r_isi (.base (.bl _)) (t := "bool") (by decide +kernel) h
theorem r_is_bl_str {b : Bool} (h : Q (.bl false) H) : rIsi K [.bl b, .ty "str"] H Q := r_isi (.base (.bl _)) (t := "bool") (by decide +kernel) h
theorem r_is_bl_tuple {b : Bool} (h : Q (.bl false) H) : rIsi K [.bl b, .ty "tuple"] H Q := r_isi (.base (.bl _)) (t := "bool") (by decide +kernel) h
theorem r_is_bl_list {b : Bool} (h : Q (.bl false) H) : rIsi K [.bl b, .ty "list"] H Q := r_isi (.base (.bl _)) (t := "bool") (by decide +kernel) h
theorem r_is_bl_dict {b : Bool} (h : Q (.bl false) H) : rIsi K [.bl b, .ty "dict"] H Q := r_isi (.base (.bl _)) (t := "bool") (by decide +kernel) h
theorem r_is_non_int  (h : Q (.bl false) H) : rIsi K [.non, .ty "int"] H Q := r_isi (.base .non) (t := "NoneType") (by decide +kernel) h
theorem r_is_non_bool  (h : Q (.bl false) H) : rIsi K [.non, .ty "bool"] H Q := r_isi (.base .non) (t := "NoneType") (by decide +kernel) h
theorem r_is_non_str  (h : Q (.bl false) H) : rIsi K [.non, .ty "str"] H Q := r_isi (.base .non) (t := "NoneType") (by decide +kernel) h
theorem r_is_non_tuple  (h : Q (.bl false) H) : rIsi K [.non, .ty "tuple"] H Q := r_isi (.base .non) (t := "NoneType") (by decide +kernel) h
theorem r_is_non_list  (h : Q (.bl false) H) : rIsi K [.non, .ty "list"] H Q := r_isi (.base .non) (t := "NoneType") (by decide +kernel) h
theorem r_is_non_dict  (h : Q (.bl false) H) : rIsi K [.non, .ty "dict"] H Q := r_isi (.base .non) (t := "NoneType") (by decide +kernel) h
theorem r_is_lst_int {a : Addr} {xs : List V} (e : H a = some (.lst xs)) (h : Q (.bl false) H) : rIsi K [.ref a, .ty "int"] H Q := r_isi (.base (.lst e)) (t := "list") (by decide +kernel) h
theorem r_is_lst_str {a : Addr} {xs : List V} (e : H a = some (.lst xs)) (h : Q (.bl false) H) : rIsi K [.ref a, .ty "str"] H Q := r_isi (.base (.lst e)) (t := "list") (by decide +kernel) h
theorem r_is_lst_tuple {a : Addr} {xs : List V} (e : H a = some (.lst xs)) (h : Q (.bl false) H) : rIsi K [.ref a, .ty "tuple"] H Q := r_isi (.base (.lst e)) (t := "list") (by decide +kernel) h
theorem r_is_lst_list {a : Addr} {xs : List V} (e : H a = some (.lst xs)) (h : Q (.bl true) H) : rIsi K [.ref a, .ty "list"] H Q := r_isi (.base (.lst e)) (t := "list") (by decide +kernel) h
theorem r_is_lst_dict {a : Addr} {xs : List V} (e : H a = some (.lst xs)) (h : Q (.bl false) H) : rIsi K [.ref a, .ty "dict"] H Q := r_isi (.base (.lst e)) (t := "list") (by decide +kernel) h
theorem r_is_tup_int {a : Addr} {xs : List V} (e : H a = some (.tup xs)) (h : Q (.bl false) H) : rIsi K [.ref a, .ty "int"] H Q := r_isi (.base (.tup e)) (t := "tuple") (by decide +kernel) h
theorem r_is_tup_str {a : Addr} {xs : List V} (e : H a = some (.tup xs)) (h : Q (.bl false) H) : rIsi K [.ref a, .ty "str"] H Q := r_isi (.base (.tup e)) (t := "tuple") (by decide +kernel) h
theorem r_is_tup_tuple {a : Addr} {xs : List V} (e : H a = some (.tup xs)) (h : Q (.bl true) H) : rIsi K [.ref a, .ty "tuple"] H Q := r_isi (.base (.tup e)) (t := "tuple") (by decide +kernel) h
theorem r_is_tup_list {a : Addr} {xs : List V} (e : H a = some (.tup xs)) (h : Q (.bl false) H) : rIsi K [.ref a, .ty "list"] H Q := r_isi (.base (.tup e)) (t := "tuple") (by decide +kernel) h
theorem r_is_tup_dict {a : Addr} {xs : List V} (e : H a = some (.tup xs)) (h : Q (.bl false) H) : rIsi K [.ref a, .ty "dict"] H Q := r_isi (.base (.tup e)) (t := "tuple") (by decide +kernel) h
theorem r_is_dK_int {a : Addr} {kvs : List (Key × V)} (e : H a = some (.dK kvs)) (h : Q (.bl false) H) : rIsi K [.ref a, .ty "int"] H Q := r_isi (.base (.dK e)) (t := "dict") (by decide +kernel) h
theorem r_is_dK_str {a : Addr} {kvs : List (Key × V)} (e : H a = some (.dK kvs)) (h : Q (.bl false) H) : rIsi K [.ref a, .ty "str"] H Q := r_isi (.base (.dK e)) (t := "dict") (by decide +kernel) h
theorem r_is_dK_tuple {a : Addr} {kvs : List (Key × V)} (e : H a = some (.dK kvs)) (h : Q (.bl false) H) : rIsi K [.ref a, .ty "tuple"] H Q := r_isi (.base (.dK e)) (t := "dict") (by decide +kernel) h
theorem r_is_dK_list {a : Addr} {kvs : List (Key × V)} (e : H a = some (.dK kvs)) (h : Q (.bl false) H) : rIsi K [.ref a, .ty "list"] H Q := r_isi (.base (.dK e)) (t := "dict") (by decide +kernel) h
theorem r_is_dK_dict {a : Addr} {kvs : List (Key × V)} (e : H a = some (.dK kvs)) (h : Q (.bl true) H) : rIsi K [.ref a, .ty "dict"] H Q := r_isi (.base (.dK e)) (t := "dict") (by decide +kernel) h
theorem r_max2 {i j : Int} (h : Q (.int (max i j)) H) : rMax2 [.int i, .int j] H Q := ⟨i, j, rfl, by
  have e : (if j > i then j else i) = max i j := by
    by_cases q : j > i
    · rw [if_pos q]; omega
    · rw [if_neg q]; omega
  rw [e]; exact h⟩
theorem r_min2 {i j : Int} (h : Q (.int (min i j)) H) : rMin2 [.int i, .int j] H Q := ⟨i, j, rfl, by
  have e : (if j < i then j else i) = min i j := by
    by_cases q : j < i
    · rw [if_pos q]; omega
    · rw [if_neg q]; omega
  rw [e]; exact h⟩
theorem r_bm {T : String} {r : V → List V → Hp → VK → Prop} {t : TA} (h : te σ H fun x H1 => tyV K T x H1 ∧ t σ H1 fun xs H2 => r x xs H2 Q) : tBM K T r te t σ H Q := h
theorem r_bm0 {T : String} {r : V → List V → Hp → VK → Prop} (h : te σ H fun x H1 => tyV K T x H1 ∧ r x [] H1 Q) : tBM0 K T r te σ H Q := h
theorem r_tyL {p : Addr} {xs : List V} {P : Prop} (hs : SqL K H p xs) (h : P) : tyV K "list" (.ref p) H ∧ P := ⟨.inl ⟨rfl, xs, hs⟩, h⟩
theorem r_tyS {z : Str} {P : Prop} (h : P) : tyV K "str" (.str z) H ∧ P := ⟨rfl, h⟩
/-- what a store changes: p alone -/
def Chg (p : Addr) (o : HO) (H H' : Hp) : Prop := H' p = some o ∧ ∀ b u, b ≠ p → H b = some u → H' b = some u
theorem chg_upd {p : Addr} {o : HO} : Chg p o H (upd H p o) := ⟨upd_same, fun b u n e => by rw [upd_ne n]; exact e⟩
theorem r_append {p : Addr} {xs : List V} {y : V} (hs : H p = some (.lst xs)) (hl : xs.length < sizeLine) (h : ∀ H', Chg p (.lst (xs ++ [y])) H H' → Q .non H') : rAppend (.ref p) [y] H Q :=
  ⟨p, xs, y, rfl, rfl, hs, hl, h _ chg_upd⟩
/-! dicts -/
theorem r_dget {td ty : TE} (h : td σ H fun x H1 => ty σ H1 fun y H2 => ∃ a v, x = .ref a ∧ DGet H2 a y (some v) ∧ Q v H2) : tDGet td ty σ H Q := h
theorem r_dgetE {p : Addr} {kvs : List (Key × V)} {n : Int} {v : V} (hs : Rd H p (.dK kvs)) {P : V → Prop} (e : valV kvs (.inl n) = some v) (h : P v) : ∃ a v, V.ref p = .ref a ∧ DGet H a (.int n) (some v) ∧ P v :=
  ⟨p, v, rfl, .inl ⟨kvs, .inl n, hs, rfl, e.symm⟩, h⟩
theorem r_din {td ty : TE} (h : ty σ H fun y H1 => td σ H1 fun x H2 => ∃ a o, x = .ref a ∧ DGet H2 a y o ∧ Q (.bl o.isSome) H2) : tDIn ty td σ H Q := h
theorem r_dnotin {td ty : TE} (h : ty σ H fun y H1 => td σ H1 fun x H2 => ∃ a o, x = .ref a ∧ DGet H2 a y o ∧ Q (.bl (!o.isSome)) H2) : tDNotIn ty td σ H Q := h
theorem r_dinE {p : Addr} {kvs : List (Key × V)} {n : Int} {P : Option V → Prop} (hs : Rd H p (.dK kvs)) (h : P (valV kvs (.inl n))) : ∃ a o, V.ref p = .ref a ∧ DGet H a (.int n) o ∧ P o :=
  ⟨p, _, rfl, .inl ⟨kvs, .inl n, hs, rfl, rfl⟩, h⟩
theorem r_dput {td ty tv : TE} (h : tv σ H fun v H1 => td σ H1 fun x H2 => ty σ H2 fun y H3 => ∃ a H4, x = .ref a ∧ DPut H3 a y v H4 ∧ nx σ H4) : sDPut td ty tv ⟨nx, rt, bk, ct⟩ σ H := h
theorem r_dputE {p : Addr} {kvs : List (Key × V)} {n : Int} {v : V} {P : Hp → Prop} (hs : H p = some (.dK kvs)) (hl : kvs.length < sizeLine) (h : ∀ H', Chg p (.dK (putK kvs (.inl n) v)) H H' → P H') :
    ∃ a H4, V.ref p = .ref a ∧ DPut H a (.int n) v H4 ∧ P H4 := ⟨p, _, rfl, DPut.k (k := .inl n) hs hl, h _ chg_upd⟩
/-! fields, methods -/
theorem r_fld {f : Str} (h : ta σ H fun x H1 => ∃ a C dx fs v, x = .ref a ∧ H1 a = some (.ins C dx fs) ∧ Cls K C ∧ NoAttr K C f ∧ fs.lookup f = some v ∧ Q v H1) : tFld K ta f σ H Q := h
theorem r_meth {C : Addr} {m : Str} {sp : Sp} {E : XK} {t : TA} (h : ta σ H fun x H1 => ∃ a dx fs, x = .ref a ∧ H1 a = some (.ins C dx fs) ∧ fs.lookup m = none ∧ t σ H1 fun vs H2 => sp (x :: vs) H2 Q E) : tMeth C m sp [] E ta t σ H Q := by
  unfold tMeth
  simpa using h
/-! locks, loops, comprehensions -/
theorem same_trans {H1 H2 H3 : Hp} (a : Same H1 H2) (b : Same H2 H3) : Same H1 H3 := a.trans b
/-- a loop, a comprehension over what J walks -/
def ForG (J : It) (g : TG) (tb : TS) (nx : St → Hp → Prop) (rt : VK) (σ : St) (H : Hp) : Prop := ∃ W : Nat → Nat → St → Hp → Prop, (∃ m, W 0 m σ H) ∧ ∀ i m σ H, W i m σ H → (J.stop i H ∧ nx σ H) ∨ (J.go i H ∧ ∃ N : St → Hp → Prop, (∀ σ' H', N σ' H' → ∃ m', m' < m ∧ W (i + 1) m' σ' H') ∧
    ∀ x H', J.yld i H x H' → g x σ H' fun σ2 H2 => tb ⟨N, rt, nx, N⟩ σ2 H2)
def LcG (J : It) (k : Nat) (tt : TT) (te : TE) (σ : St) (Q : VK) (H1 : Hp) : Prop := ∀ D, H1 D = none → ∃ W : Nat → Nat → Hp → Prop, (∃ m, W 0 m (upd H1 D (.lst []))) ∧ ∀ i m H, W i m H →
  (J.stop i H ∧ Q (.ref D) H) ∨ (J.go i H ∧ ∃ Nx : Hp → Prop, (∀ H', Nx H' → ∃ m', m' < m ∧ W (i + 1) m' H') ∧ ∀ x H', J.yld i H x H' → gName k x (wipe σ [k]) H' fun σ2 H2 => wipe σ2 [k] = wipe σ [k] ∧ tt σ2 H2 fun b H3 =>
    if b = true then te σ2 H3 fun y H4 => ∃ acc, H4 D = some (.lst acc) ∧ acc.length < sizeLine ∧ Nx (upd H4 D (.lst (acc ++ [y]))) else Nx H3)
theorem r_for {wi : TI} {tb : TS} (h : wi σ H fun J H1 => ForG J g tb nx rt σ H1) : tFor wi g tb ⟨nx, rt, bk, ct⟩ σ H := h
theorem r_rng1 {t : TA} {R : It → Hp → Prop} (h : t σ H fun vs H1 => ∃ j : Int, vs = [.int j] ∧ -(2 ^ 62) ≤ j ∧ j < 2 ^ 62 ∧ R (Itr 0 j.toNat) H1) : iRng1 t σ H R := h
theorem r_rng1E {j : Int} {P : Int → Prop} (h1 : -(2 ^ 62) ≤ j ∧ j < 2 ^ 62) (h : P j) : ∃ j' : Int, [V.int j] = [.int j'] ∧ -(2 ^ 62) ≤ j' ∧ j' < 2 ^ 62 ∧ P j' := ⟨j, rfl, h1.1, h1.2, h⟩
theorem r_rng2 {t : TA} {R : It → Hp → Prop} (h : t σ H fun vs H1 => ∃ i j : Int, vs = [.int i, .int j] ∧ (-(2 ^ 62) ≤ i ∧ i < 2 ^ 62 ∧ -(2 ^ 62) ≤ j ∧ j < 2 ^ 62) ∧ R (Itr i (j - i).toNat) H1) : iRng2 t σ H R := h
theorem r_rng2E {i j : Int} {P : Int → Int → Prop} (h1 : -(2 ^ 62) ≤ i ∧ i < 2 ^ 62 ∧ -(2 ^ 62) ≤ j ∧ j < 2 ^ 62) (h : P i j) : ∃ i2 j2 : Int, [V.int i, V.int j] = [.int i2, .int j2] ∧ (-(2 ^ 62) ≤ i2 ∧ i2 < 2 ^ 62 ∧ -(2 ^ 62) ≤ j2 ∧ j2 < 2 ^ 62) ∧ P i2 j2 := ⟨i, j, rfl, h1, h⟩
theorem r_iList {R : It → Hp → Prop} (h : te σ H fun x H1 => ∃ a, x = .ref a ∧ (∃ xs, SqL K H1 a xs) ∧ R (Itl K a) H1) : iList K te σ H R := h
theorem r_iListE {a : Addr} {xs : List V} {P : Addr → Prop} (hs : SqL K H a xs) (h : P a) : ∃ a2, V.ref a = .ref a2 ∧ (∃ xs, SqL K H a2 xs) ∧ P a2 := ⟨a, rfl, ⟨xs, hs⟩, h⟩
theorem r_iKeys {R : It → Hp → Prop} (h : te σ H fun x H1 => ∃ d o, x = .ref d ∧ ((∃ kvs, H1 d = some (.frz o (.dK kvs)) ∧ R (Itk d o kvs) H1) ∨ ∃ kvs, H1 d = some (.frz o (.dT kvs)) ∧ R (Itkt d o kvs) H1)) : iKeys te σ H R := h
theorem r_iKeysE {d : Addr} {o : Obj} {kvs : List (Key × V)} {R : It → Hp → Prop} (hs : H d = some (.frz o (.dK kvs))) (h : R (Itk d o kvs) H) :
    ∃ d2 o2, V.ref d = .ref d2 ∧ ((∃ kvs, H d2 = some (.frz o2 (.dK kvs)) ∧ R (Itk d2 o2 kvs) H) ∨ ∃ kvs, H d2 = some (.frz o2 (.dT kvs)) ∧ R (Itkt d2 o2 kvs) H) := ⟨d, o, rfl, .inl ⟨kvs, hs, h⟩⟩
theorem r_rev {p : Addr} {xs : List V} (hs : H p = some (.lst xs)) (h : ∀ H', Chg p (.lst xs.reverse) H H' → Q .non H') : rReverse (.ref p) [] H Q := ⟨p, xs, rfl, rfl, hs, h _ chg_upd⟩
theorem r_lc {wi : TI} {k : Nat} (h : wi σ H fun J H1 => LcG J k tt te σ Q H1) : tLc wi (gName k) tt te [k] σ H Q := h
end

/-! ### loops and comprehensions by what is walked -/
section
variable {nx : St → Hp → Prop} {rt : VK} {bk ct : St → Hp → Prop} {σ : St} {H : Hp} {te : TE} {g : TG} {tt : TT} {Q : VK} {J : It} {n : Nat} {G : Hp → Prop} {Y : Nat → Hp → V → Hp → Prop} {tb : TS}
theorem for_go (w : Walk J n G Y) (Pv : Nat → St → Hp → Prop) (h0 : Pv 0 σ H) (hG : ∀ i σ H, i ≤ n → Pv i σ H → G H)
    (hs : ∀ i x σ H H', i < n → Pv i σ H → Y i H x H' → g x σ H' fun σ2 H2 => tb ⟨Pv (i + 1), rt, nx, Pv (i + 1)⟩ σ2 H2) (hd : ∀ σ H, Pv n σ H → nx σ H) :
    ForG J g tb nx rt σ H := for_it w (D := ⟨nx, rt, fun _ _ => False, fun _ _ => False⟩) Pv h0 hG hs hd
theorem walk_rng {lo : Int} {n : Nat} : Walk (Itr lo n) n (fun _ => True) (fun i H x H' => H' = H ∧ x = .int (lo + i)) := walk_range.mono (fun _ h => h) fun i H x H' _ _ y => y
theorem walk_rng0 {n : Nat} : Walk (Itr 0 n) n (fun _ => True) (fun i H x H' => H' = H ∧ x = .int i) := walk_range.mono (fun _ h => h) fun i H x H' _ _ y => ⟨y.1, by rw [y.2]; show V.int (0 + (i : Int)) = V.int i; rw [Int.zero_add]⟩
theorem r_yes {QB : Bool → Hp → Prop} (h : QB true H) : tYes σ H QB := h
/-- what holds of a comprehension's list so far -/
def LcI (Pv : Addr → Nat → List V → Hp → Prop) (D : Addr) (i : Nat) (H : Hp) : Prop := ∃ acc, acc.length ≤ i ∧ H D = some (.lst acc) ∧ Pv D i acc H
theorem lc_go (w : Walk J n G Y) (hn : n ≤ 1000000) {k : Nat} (Pv : Addr → Nat → List V → Hp → Prop) (h0 : ∀ D H2, H D = none → Same H H2 → H2 D = some (.lst []) → Pv D 0 [] H2)
    (hG : ∀ D i acc H, i ≤ n → Pv D i acc H → G H)
    (hs : ∀ D i x acc H H', i < n → acc.length ≤ i → H D = some (.lst acc) → Pv D i acc H → Y i H x H' → gName k x σ H' fun σ2 H2 => tt σ2 H2 fun b H3 =>
      if b = true then te σ2 H3 fun y H4 => ∃ acc, H4 D = some (.lst acc) ∧ acc.length < sizeLine ∧ LcI Pv D (i + 1) (upd H4 D (.lst (acc ++ [y]))) else LcI Pv D (i + 1) H3)
    (hd : ∀ D acc H, Pv D n acc H → H D = some (.lst acc) → Q (.ref D) H) :
    LcG J k tt te σ Q H := by
  intro D hD
  refine lc_it w (Qd := fun H => Q (.ref D) H) (fun i H => LcI Pv D i H) ⟨[], Nat.le_refl _, upd_same, h0 D _ hD (same_new hD) upd_same⟩ (fun i H hi ⟨acc, _, _, p⟩ => hG D i acc H hi p) ?_ (fun H ⟨acc, _, e, p⟩ => hd D acc H p e)
  rintro i x H1 H' hi ⟨acc, ha, e, p⟩ y
  have e1 : (wipe σ [k]).set k (some x) = σ.set k (some x) := by
    show (σ.set k none).set k (some x) = σ.set k (some x)
    rw [List.set_set]
  have e2 : wipe (σ.set k (some x)) [k] = wipe σ [k] := by
    show (σ.set k (some x)).set k none = σ.set k none
    rw [List.set_set]
  show wipe ((wipe σ [k]).set k (some x)) [k] = wipe σ [k] ∧ tt ((wipe σ [k]).set k (some x)) H' _
  rw [e1]
  exact ⟨e2, hs D i x acc H1 H' hi ha e p y⟩
theorem lc_end {Pv : Addr → Nat → List V → Hp → Prop} {D : Addr} {i : Nat} {acc : List V} {y : V} (ha : acc.length ≤ i) (hi : i < 1000000) (e : H D = some (.lst acc))
    (h : ∀ H5, Chg D (.lst (acc ++ [y])) H H5 → Pv D (i + 1) (acc ++ [y]) H5) : ∃ acc, H D = some (.lst acc) ∧ acc.length < sizeLine ∧ LcI Pv D (i + 1) (upd H D (.lst (acc ++ [y]))) :=
  ⟨acc, e, by rw [sizeLine_eq]; omega, acc ++ [y], by rw [List.length_append]; show acc.length + 1 ≤ i + 1; omega, upd_same, h _ chg_upd⟩
theorem lc_not {Pv : Addr → Nat → List V → Hp → Prop} {D : Addr} {i : Nat} {acc : List V} (ha : acc.length ≤ i) (e : H D = some (.lst acc)) (h : Pv D (i + 1) acc H) : LcI Pv D (i + 1) H := ⟨acc, by omega, e, h⟩
/-- a while -/
theorem r_while {c : TT} (Pv : St → Hp → Prop) (μ : St → Hp → Nat) (h0 : Pv σ H)
    (hs : ∀ σ H, Pv σ H → c σ H fun b H1 => if b = true then ∃ N : St → Hp → Prop, (∀ σ' H', N σ' H' → ∃ m', m' < μ σ H ∧ (m' = μ σ' H' ∧ Pv σ' H')) ∧ tb ⟨N, rt, nx, N⟩ σ H1 else nx σ H1) : tWhile c tb ⟨nx, rt, bk, ct⟩ σ H := by
  refine ⟨fun m σ H => m = μ σ H ∧ Pv σ H, ⟨_, rfl, h0⟩, ?_⟩
  rintro m σ H ⟨rfl, p⟩
  exact hs σ H p
theorem wh_body {Pv : St → Hp → Prop} {μ : St → Hp → Nat} {m : Nat} {H1 : Hp} (h : tb ⟨fun σ' H' => Pv σ' H' ∧ μ σ' H' < m, rt, nx, fun σ' H' => Pv σ' H' ∧ μ σ' H' < m⟩ σ H1) :
    ∃ N : St → Hp → Prop, (∀ σ' H', N σ' H' → ∃ m', m' < m ∧ (m' = μ σ' H' ∧ Pv σ' H')) ∧ tb ⟨N, rt, nx, N⟩ σ H1 := ⟨_, fun σ' H' h => ⟨_, h.2, rfl, h.1⟩, h⟩
end
/-! ### the steps by their heads -/
/-- a fact of an elder heap, in the newest -/
theorem sm_of {H H' : Hp} {a : Addr} {o : HO} (s : Same H H') (h : H a = some o) : H' a = some o := s a o h
theorem sm_chg {H H1 H2 : Hp} {D : Addr} {o : HO} (s : Same H H1) (h : H D = none) (c : Chg D o H1 H2) : Same H H2 := fun b u e => c.2 b u (ne_of_none e h) (s b u e)
theorem sm_tup {K : PySem.W.Frag} {H H' : Hp} {a : Addr} {xs : List V} (e : Same H H') (h : SqT K H a xs) : SqT K H' a xs := by
  rcases h with (h | ⟨o, h⟩) | h
  · exact .inl (.inl (e _ _ h))
  · exact .inl (.inr ⟨o, e _ _ h⟩)
  · exact .inr h
theorem sm_rd {H H' : Hp} {a : Addr} {u : HO} (e : Same H H') (h : Rd H a u) : Rd H' a u := by
  rcases h with h | ⟨o, h⟩
  · exact .inl (e _ _ h)
  · exact .inr ⟨o, e _ _ h⟩
end Pk
namespace Pk
open PySem PySem.Spec L2
/-- a def of the module's top, called by its name -/
structure FnAt (P : Program) (w : World) (K : PySem.W.Frag) (mg : Str → Option Value) (base : Heap) (x : Str) (k : Nat) (ps : List Str) (sp : Sp) (f : Addr) (fd : FuncData) : Prop where
  ok : FnOk P w K mg base (L2.CX P w) k f fd ps sp
  mg : mg x = some (.ref f)
  kp : PySem.W.keepIn K (.ref f) = true
  b : Binds K fd ps []
/-- a method of the class at C -/
structure MeAt (P : Program) (w : World) (K : PySem.W.Frag) (mg : Str → Option Value) (base : Heap) (C : Addr) (m : Str) (k : Nat) (ps : List Str) (sp : Sp) (f : Addr) (fd : FuncData) : Prop where
  ok : FnOk P w K mg base (L2.CX P w) k f fd ps sp
  mt : Meth K C m f
  b : Binds K fd ps []
/-- the class's __init__ -/
structure MeI (P : Program) (w : World) (K : PySem.W.Frag) (mg : Str → Option Value) (base : Heap) (C : Addr) (k : Nat) (ps : List Str) (sp : Sp) (f : Addr) (fd : FuncData) : Prop where
  ok : FnOk P w K mg base (L2.CX P w) k f fd ps sp
  b : Binds K fd ps []
theorem cx_no {P : Program} {w : World} {outer : List Env} {H : Hp} {s : Shared} {e : Value} {s2 : Shared} (h : L2.CX P w outer H s (fun _ _ _ => False) e s2) : False := by
  obtain ⟨_, _, _, _, _, _, _, _, _, _, _, _, z⟩ := h
  exact z
/-- what a raised own class must say -/
structure ExAt (K : PySem.W.Frag) (mg : Str → Option Value) (x : Str) (C : Addr) : Prop where
  mg : mg x = some (.ref C)
  x : PySem.W.excIn K C He.veBase "ValueError.__new__" = true
  k : PySem.W.keepIn K (.ref C) = true
  b : PySem.W.subIn K (.ref C) (.type "BaseException") = some true
  t : PySem.W.typeIn K (.ref C) = some (.type "type")
/-- the facts of the head, and one more of one's own -/
def hookP (n : Nat) (fa : List He.Fa) (fn : List He.DefD) (ex : PySem.W.Frag → Bool) : PySem.W.Hook where
  α := He.AlD × Bool
  obs := fun s => (He.obsDG n fa fn s.heap.get?, ex (He.frG s.heap.get? (He.asD s.heap.get? n)))
  val := fun _ => (He.valD fn, true)
  says := fun _ h => ∃ K : PySem.W.Frag, K.In h ∧ He.SaysD fa fn K ∧ ex K = true
  of := fun _ _ e => ⟨_, He.frG_in, congrArg Prod.fst e, congrArg Prod.snd e⟩
  keeps := fun _ _ _ ⟨K, hK, c⟩ k => ⟨K, PySem.W.Frag.In.keeps hK k, c⟩
def obsP (n : Nat) (fa : List He.Fa) (fn : List He.DefD) (ex : PySem.W.Frag → Bool) (g : Addr → Option Obj) : He.AlD × Bool := (He.obsDG n fa fn g, ex (He.frG g (He.asD g n)))
theorem obsP_eq {n : Nat} {fa : List He.Fa} {fn : List He.DefD} {ex : PySem.W.Frag → Bool} {g : Addr → Option Obj} {s : Shared} (h : ∀ a, g a = s.heap.get? a) : obsP n fa fn ex g = (hookP n fa fn ex).obs s := by
  have e : g = s.heap.get? := funext h
  rw [e]
  rfl
end Pk
/-! PkM: the mathematics, and facts of the slots and heaps that several defs share. -/
namespace Pk
open PySem PySem.Spec L2
/-- where a change fits -/
def Fits (z : List Nat) (at_ : Int) (gone : List Nat) : Prop := 0 ≤ at_ ∧ at_ + gone.length ≤ z.length ∧ cutL z (some at_) (some (at_ + gone.length)) = gone
def doneL (z : List Nat) (at_ : Int) (gone come : List Nat) : List Nat := cutL z none (some at_) ++ come ++ cutL z (some (at_ + gone.length)) none
/-- a text of at most n signs -/
def Tx (n : Nat) (l : List Nat) : Prop := l.length ≤ n ∧ Ok l
theorem Tx.mono {n m : Nat} {l : List Nat} (h : Tx n l) (e : n ≤ m) : Tx m l := ⟨by have := h.1; omega, h.2⟩
theorem Tx.app {n m : Nat} {a b : List Nat} (h : Tx n a) (g : Tx m b) : Tx (n + m) (a ++ b) := ⟨by rw [List.length_append]; have := h.1; have := g.1; omega, fun c hc => (List.mem_append.mp hc).elim (h.2 c) (g.2 c)⟩
theorem Tx.sub {n : Nat} {a b : List Nat} (h : Tx n b) (s : a.Sublist b) : Tx n a := ⟨by have := h.1; have := s.length_le; omega, fun c hc => h.2 c (s.subset hc)⟩
theorem Tx.take {n : Nat} {a : List Nat} (h : Tx n a) (k : Nat) : Tx n (a.take k) := h.sub (List.take_sublist k a)
theorem Tx.drop {n : Nat} {a : List Nat} (h : Tx n a) (k : Nat) : Tx n (a.drop k) := h.sub (List.drop_sublist k a)
theorem Tx.cut {n : Nat} {a : List Nat} (h : Tx n a) (lo hi : Option Int) : Tx n (cutL a lo hi) := (h.drop _).take _
theorem strOk_of {l : List Nat} (h : Ok l) : PyData.strOk (S l) = true := by
  unfold PyData.strOk
  rw [Array.all_eq_true]
  intro i hi
  exact decide_eq_true (h _ (by simp))
theorem dp_i (K : PySem.W.Frag) (H : Hp) (i : Int) : Dp K H (.int i) (.int i) := .int i
/-- a change as data -/
abbrev chD (i : Int) (a b : List Nat) : PyData := .tuple [.int i, .str (S a), .str (S b)]
theorem chD_dp {K : PySem.W.Frag} {H : Hp} {t : Addr} {i : Int} {a b : List Nat} (h : H t = some (.tup [.int i, .str (S a), .str (S b)])) : Dp K H (.ref t) (chD i a b) := .tup (.of h) (.cons (.int i) (.cons (.str _) (.cons (.str _) .nil)))
theorem chD_lay {i : Int} {a b : List Nat} (ha : Ok a) (hb : Ok b) : (chD i a b).canLay0 = true := by
  simp [chD, PyData.canLay0, PyData.canLayAll0, strOk_of ha, strOk_of hb]
theorem chD_shaped {i : Int} {a b : List Nat} (ha : Ok a) (hb : Ok b) : SeqAt.shaped (chD i a b) = true := by
  unfold SeqAt.shaped
  rw [chD_lay ha hb]
  rfl
theorem r_eqSame {K : PySem.W.Frag} {H : Hp} {Q : VK} {x y : V} (d : PyData) (h1 : Dp K H x d) (h2 : Dp K H y d) (s : SeqAt.shaped d = true) (h : Q (.bl true) H) : rEqG K x y H Q :=
  r_eqD d d h1 h2 s s (by rw [SeqAt.eqv_refl d (SeqAt.canLay_of_shaped s)]; exact h)
theorem r_neSame {K : PySem.W.Frag} {H : Hp} {Q : VK} {x y : V} (d : PyData) (h1 : Dp K H x d) (h2 : Dp K H y d) (s : SeqAt.shaped d = true) (h : Q (.bl false) H) : rNeG K x y H Q :=
  r_neD d d h1 h2 s s (by rw [SeqAt.eqv_refl d (SeqAt.canLay_of_shaped s)]; exact h)
theorem cutL_len (z : List Nat) (lo hi : Option Int) : (cutL z lo hi).length ≤ z.length := by
  unfold cutL
  rw [List.length_take, List.length_drop]
  omega
theorem cutL_nn (z : List Nat) (i j : Nat) : cutL z (some (i : Int)) (some (j : Int)) = (z.drop i).take (j - i) := by
  unfold cutL
  rw [HT.sIx_nat, HT.sIx_nat]
  by_cases h : i ≤ z.length
  · rw [Nat.min_eq_left h]
    by_cases h2 : j ≤ z.length
    · rw [Nat.min_eq_left h2]
    · rw [Nat.min_eq_right (show z.length ≤ j by omega), List.take_of_length_le (by rw [List.length_drop]; omega), List.take_of_length_le (by rw [List.length_drop]; omega)]
  · rw [Nat.min_eq_right (show z.length ≤ i by omega), List.drop_eq_nil_of_le (Nat.le_refl z.length), List.drop_eq_nil_of_le (show z.length ≤ i by omega)]
    simp
theorem cutL_to (z : List Nat) (j : Nat) : cutL z none (some (j : Int)) = z.take j := by
  unfold cutL
  rw [HT.sIx_nat, HT.sIx_none, List.drop_zero, Nat.sub_zero]
  by_cases h : j ≤ z.length
  · rw [Nat.min_eq_left h]
  · rw [Nat.min_eq_right (show z.length ≤ j by omega), List.take_of_length_le (Nat.le_refl _), List.take_of_length_le (show z.length ≤ j by omega)]
theorem cutL_from (z : List Nat) (i : Nat) : cutL z (some (i : Int)) none = z.drop i := by
  unfold cutL
  rw [HT.sIx_nat, HT.sIx_none]
  by_cases h : i ≤ z.length
  · rw [Nat.min_eq_left h, List.take_of_length_le (by rw [List.length_drop]; omega)]
  · rw [Nat.min_eq_right (show z.length ≤ i by omega), List.drop_eq_nil_of_le (Nat.le_refl z.length), List.drop_eq_nil_of_le (show z.length ≤ i by omega)]
    simp
theorem fits_of {p gone s : List Nat} : Fits (p ++ gone ++ s) (p.length : Int) gone := by
  refine ⟨by omega, by simp only [List.length_append]; omega, ?_⟩
  rw [show ((p.length : Int) + (gone.length : Int)) = ((p.length + gone.length : Nat) : Int) by omega, cutL_nn, List.append_assoc, List.drop_left, Nat.add_sub_cancel_left, List.take_left]
theorem fits_split {z gone : List Nat} {at_ : Int} (h : Fits z at_ gone) : ∃ p s, z = p ++ gone ++ s ∧ at_ = (p.length : Int) := by
  obtain ⟨h1, h2, h3⟩ := h
  obtain ⟨k, rfl⟩ : ∃ k : Nat, at_ = k := ⟨at_.toNat, by omega⟩
  rw [show ((k : Int) + (gone.length : Int)) = ((k + gone.length : Nat) : Int) by omega, cutL_nn, Nat.add_sub_cancel_left] at h3
  refine ⟨z.take k, (z.drop k).drop gone.length, ?_, by rw [List.length_take]; omega⟩
  have e : z.drop k = gone ++ (z.drop k).drop gone.length := by
    conv => lhs; rw [← List.take_append_drop gone.length (z.drop k), h3]
  rw [List.append_assoc, ← e, List.take_append_drop]
theorem done_of {p gone s come : List Nat} : doneL (p ++ gone ++ s) (p.length : Int) gone come = p ++ come ++ s := by
  unfold doneL
  rw [show ((p.length : Int) + (gone.length : Int)) = ((p.length + gone.length : Nat) : Int) by omega, cutL_to, cutL_from]
  rw [show (p ++ gone ++ s).take p.length = p by rw [List.append_assoc, List.take_left]]
  rw [show (p ++ gone ++ s).drop (p.length + gone.length) = s by rw [← List.length_append, List.drop_left]]
def cellAt (ns : List Int) (k : Int) : Int := ns.getD k.toNat 0
/-! ### bases: dicts from numbers to numbers or None -/
def obV : Option Int → V
  | none => .non
  | some b => .int b
def bK (lv : List (Int × Option Int)) : List (Key × V) := lv.map fun p => (.inl p.1, obV p.2)
def look {β : Type} (lv : List (Int × β)) (n : Int) : Option β := (lv.find? fun p => decide (p.1 = n)).map Prod.snd
theorem look_nil {β : Type} (n : Int) : look ([] : List (Int × β)) n = none := rfl
theorem look_cons {β : Type} (a : Int) (b : β) (r : List (Int × β)) (n : Int) : look ((a, b) :: r) n = if a = n then some b else look r n := by
  unfold look
  rw [List.find?_cons]
  by_cases h : a = n
  · simp [h]
  · simp [h]
theorem look_app {β : Type} (n : Int) : ∀ l m : List (Int × β), look (l ++ m) n = (look l n).or (look m n)
  | [], m => rfl
  | (a, b) :: r, m => by
    rw [List.cons_append, look_cons, look_cons]
    by_cases h : a = n
    · rw [if_pos h, if_pos h]; rfl
    · rw [if_neg h, if_neg h]; exact look_app n r m
theorem look_mem {β : Type} {n : Int} {b : β} : ∀ {l : List (Int × β)}, look l n = some b → (n, b) ∈ l
  | [], h => by cases h
  | (a, c) :: r, h => by
    rw [look_cons] at h
    by_cases e : a = n
    · rw [if_pos e] at h
      cases h; subst e; exact List.mem_cons_self
    · rw [if_neg e] at h
      exact List.mem_cons_of_mem _ (look_mem h)
theorem look_of_mem {β : Type} {n : Int} {b : β} : ∀ {l : List (Int × β)}, (l.map Prod.fst).Nodup → (n, b) ∈ l → look l n = some b
  | [], _, h => by cases h
  | (a, c) :: r, nd, h => by
    rw [List.map_cons, List.nodup_cons] at nd
    rw [look_cons]
    rcases List.mem_cons.mp h with e | h
    · cases e; rw [if_pos rfl]
    · rw [if_neg (fun e => nd.1 (by subst e; exact List.mem_map.mpr ⟨_, h, rfl⟩))]
      exact look_of_mem nd.2 h
theorem look_none {β : Type} {n : Int} : ∀ {l : List (Int × β)}, look l n = none ↔ n ∉ l.map Prod.fst
  | [] => by simp [look_nil]
  | (a, c) :: r => by
    rw [look_cons, List.map_cons, List.mem_cons]
    by_cases e : a = n
    · rw [if_pos e]; subst e; simp
    · rw [if_neg e, look_none]
      exact ⟨fun h z => z.elim (fun q => e q.symm) h, fun h z => h (.inr z)⟩
theorem bK_val (lv : List (Int × Option Int)) (n : Int) : valV (bK lv) (.inl n) = (look lv n).map obV := by
  induction lv with
  | nil => rfl
  | cons p r ih =>
    obtain ⟨a, b⟩ := p
    rw [look_cons]
    unfold valV bK at *
    rw [List.map_cons, List.find?_cons]
    by_cases h : a = n
    · subst h; simp
    · have e : decide ((Sum.inl a : Key) = Sum.inl n) = false := decide_eq_false fun q => h (Sum.inl.inj q)
      rw [if_neg h]
      simp only [e]
      exact ih
theorem bK_keys (lv : List (Int × Option Int)) : (bK lv).map (·.1) = (lv.map Prod.fst).map Sum.inl := by
  unfold bK
  rw [List.map_map, List.map_map]
  rfl
theorem bK_put {lv : List (Int × Option Int)} {n : Int} {b : Option Int} (h : look lv n = none) : putK (bK lv) (.inl n) (obV b) = bK (lv ++ [(n, b)]) := by
  rw [putK_new _ (by rw [bK_val, h]; rfl)]
  unfold bK
  rw [List.map_append]
  rfl
theorem bK_len (lv : List (Int × Option Int)) : (bK lv).length = lv.length := List.length_map _
/-- a version's chain -/
inductive Ch (lv : List (Int × Option Int)) : Int → List Int → Prop
  | whole {n : Int} : look lv n = some none → Ch lv n [n]
  | lean {n b : Int} {c : List Int} : look lv n = some (some b) → Ch lv b c → Ch lv n (n :: c)
theorem Ch.inj {lv : List (Int × Option Int)} {n : Int} {c d : List Int} (h : Ch lv n c) (g : Ch lv n d) : c = d := by
  induction h generalizing d with
  | whole e => cases g with
    | whole _ => rfl
    | lean e2 _ => rw [e] at e2; cases e2
  | lean e _ ih => cases g with
    | whole e2 => rw [e] at e2; cases e2
    | lean e2 g2 => rw [e] at e2; cases e2; rw [ih g2]
theorem Ch.look {lv : List (Int × Option Int)} {n : Int} {c : List Int} (h : Ch lv n c) : ∃ o, Pk.look lv n = some o := by
  cases h with
  | whole e => exact ⟨_, e⟩
  | lean e _ => exact ⟨_, e⟩
theorem Ch.head {lv : List (Int × Option Int)} {n : Int} {c : List Int} (h : Ch lv n c) : ∃ r, c = n :: r := by
  cases h with
  | whole e => exact ⟨_, rfl⟩
  | lean e _ => exact ⟨_, rfl⟩
theorem Ch.at {lv : List (Int × Option Int)} {n : Int} {c : List Int} (h : Ch lv n c) : ∀ (i : Nat) (x : Int), c[i]? = some x → Pk.look lv x = some c[i + 1]? := by
  induction h with
  | whole e =>
    intro i x q
    cases i with
    | zero => cases q; exact e
    | succ i => simp at q
  | @lean n b c e hb ih =>
    intro i x q
    cases i with
    | zero =>
      cases q
      obtain ⟨r, rfl⟩ := hb.head
      exact e
    | succ i => exact ih i x q
/-- each chain ends; r bounds how long it is -/
def Wood (lv : List (Int × Option Int)) (rk : Int → Nat) : Prop := ∀ n b, look lv n = some (some b) → (look lv b).isSome ∧ rk b < rk n
theorem Wood.ch {lv : List (Int × Option Int)} {rk : Int → Nat} (w : Wood lv rk) : ∀ (k : Nat) (n : Int), rk n ≤ k → (look lv n).isSome → ∃ c, Ch lv n c ∧ c.length ≤ rk n + 1
  | k, n, hk, h => by
    cases e : look lv n with
    | none => rw [e] at h; cases h
    | some o =>
      cases o with
      | none => exact ⟨[n], .whole e, by show 1 ≤ rk n + 1; omega⟩
      | some b =>
        obtain ⟨h1, h2⟩ := w n b e
        cases k with
        | zero => omega
        | succ k =>
          obtain ⟨c, hc, hl⟩ := Wood.ch w k b (by omega) h1
          exact ⟨n :: c, .lean e hc, by rw [List.length_cons]; omega⟩

theorem menu2 {x y : V} {i : Int} (h : 0 ≤ i ∧ i < 2) : ∃ v, atI [x, y] i = some v ∧ (v = x ∨ v = y) := by
  have h : i = 0 ∨ i = 1 := by omega
  rcases h with rfl | rfl
  · exact ⟨x, rfl, .inl rfl⟩
  · exact ⟨y, rfl, .inr rfl⟩
/-- wood as a law builds it: names f, the k-th leans on one ahead -/
theorem wood_of {many : Nat} {f : Nat → Int} {bl : List (Option Int)} {os : List Nat} (hm : many ≤ 31) (inj : ∀ j k, j < 31 → k < 31 → f j = f k → j = k) (hb : bl.length = many)
    (hlow : ∀ k b, bl[k]? = some (some b) → ∃ j, j < k ∧ b = f j) (ho : ∀ k, k ∈ os ↔ k < many) (nd : os.Nodup) :
    ((os.map fun k => (f k, bl.getD k none)).map Prod.fst).Nodup ∧ ∃ rk : Int → Nat, Wood (os.map fun k => (f k, bl.getD k none)) rk ∧ ∀ n, rk n ≤ 30 := by
  have hnd : ((os.map fun k => (f k, bl.getD k none)).map Prod.fst).Nodup := by
    rw [List.map_map]
    have e : (Prod.fst ∘ fun k => (f k, bl.getD k none)) = f := rfl
    rw [e]
    refine List.Pairwise.map f (fun j k h q => h.2.2 (inj j k h.1 h.2.1 q)) (R := fun j k => j < 31 ∧ k < 31 ∧ j ≠ k) ?_
    have h1 : os.Pairwise fun j k => j ≠ k := nd
    refine List.Pairwise.imp_of_mem ?_ h1
    intro j k hj hk h
    exact ⟨by have := (ho j).mp hj; omega, by have := (ho k).mp hk; omega, h⟩
  refine ⟨hnd, fun n => ((List.range 31).find? fun k => decide (f k = n)).getD 0, ?_, ?_⟩
  · have rkf : ∀ k, k < 31 → ((List.range 31).find? fun j => decide (f j = f k)).getD 0 = k := fun k hk => by
      cases e : (List.range 31).find? fun j => decide (f j = f k) with
      | none => exact absurd (List.find?_eq_none.mp e k (List.mem_range.mpr hk)) (by simp)
      | some j =>
        have h1 := List.find?_some e
        have h2 := List.mem_of_find?_eq_some e
        exact inj j k (List.mem_range.mp h2) hk (of_decide_eq_true h1)
    intro n b h
    obtain ⟨k, hk, e⟩ := List.mem_map.mp (look_mem h)
    injection e with e1 e2
    subst e1
    have hk2 := (ho k).mp hk
    obtain ⟨j, hj, rfl⟩ := hlow k b (by rw [List.getElem?_eq_getElem (by omega)]; rw [List.getD_eq_getElem?_getD, List.getElem?_eq_getElem (by omega)] at e2; exact congrArg some e2)
    have hjm : j ∈ os := (ho j).mpr (by omega)
    refine ⟨?_, ?_⟩
    · rw [look_of_mem hnd (List.mem_map.mpr ⟨j, hjm, rfl⟩)]; rfl
    · show ((List.range 31).find? fun i => decide (f i = f j)).getD 0 < ((List.range 31).find? fun i => decide (f i = f k)).getD 0
      rw [rkf j (by omega), rkf k (by omega)]
      exact hj
  · intro n
    show ((List.range 31).find? fun k => decide (f k = n)).getD 0 ≤ 30
    cases e : (List.range 31).find? fun j => decide (f j = n) with
    | none => exact Nat.zero_le _
    | some j =>
      have := List.mem_range.mp (List.mem_of_find?_eq_some e)
      show j ≤ 30
      omega

/-! ### data: lists of numbers, dicts of bases -/
abbrev inD (c : List Int) : PyData := .list (c.map PyData.int)
theorem ins_dp {K : PySem.W.Frag} {H : Hp} : ∀ c : List Int, DpAll K H (c.map V.int) (c.map PyData.int)
  | [] => .nil
  | i :: r => .cons (.int i) (ins_dp r)
theorem inD_dp {K : PySem.W.Frag} {H : Hp} {p : Addr} {c : List Int} (h : SqL K H p (c.map V.int)) : Dp K H (.ref p) (inD c) := .lst h (ins_dp c)
theorem ins_lay : ∀ c : List Int, PyData.canLayAll0 (c.map PyData.int) = true
  | [] => rfl
  | i :: r => by
    rw [List.map_cons, PyData.canLayAll0, ins_lay r]
    rfl
theorem ins_depth : ∀ c : List Int, PyData.depthAll (c.map PyData.int) ≤ 1
  | [] => by decide
  | i :: r => by
    have := ins_depth r
    rw [List.map_cons, PyData.depthAll]
    have e : (PyData.int i).depth ≤ 1 := by rw [PyData.depth]; decide
    omega
theorem inD_shaped (c : List Int) : SeqAt.shaped (inD c) = true := by
  unfold SeqAt.shaped inD
  rw [PyData.canLay0, ins_lay, PyData.depth]
  have := ins_depth c
  simp
  omega
theorem bK_list (lv : List (Int × Option Int)) : ((bK lv).map fun kv => kV kv.1) = (lv.map Prod.fst).map V.int := by
  unfold bK
  rw [List.map_map, List.map_map]
  rfl
theorem obV_flat (o : Option Int) : flatB (obV o) = true := by cases o <;> rfl
theorem r_neB {K : PySem.W.Frag} {H : Hp} {Q : VK} {p q : Addr} {lv : List (Int × Option Int)} (hp : H p = some (.dK (bK lv))) (hq : H q = some (.dK (bK lv))) (nd : (lv.map Prod.fst).Nodup) (h : Q (.bl false) H) : rNeG K (.ref p) (.ref q) H Q := by
  refine .inr (.inr ⟨p, q, _, _, rfl, rfl, hp, hq, rfl, fun kv hkv => ?_, h⟩)
  obtain ⟨⟨n, o⟩, hm, rfl⟩ := List.mem_map.mp hkv
  exact ⟨by rw [bK_val, look_of_mem nd hm]; rfl, obV_flat o⟩

/-! ### the change between two texts -/
def lcp : List Nat → List Nat → Nat
  | a :: as, b :: bs => if a = b then lcp as bs + 1 else 0
  | _, _ => 0
theorem lcp_le1 : ∀ a b : List Nat, lcp a b ≤ a.length
  | [], _ => Nat.zero_le _
  | _ :: _, [] => Nat.zero_le _
  | x :: as, y :: bs => by
    rw [lcp, List.length_cons]
    by_cases h : x = y
    · rw [if_pos h]; exact Nat.succ_le_succ (lcp_le1 as bs)
    · rw [if_neg h]; exact Nat.zero_le _
theorem lcp_le2 : ∀ a b : List Nat, lcp a b ≤ b.length
  | [], _ => Nat.zero_le _
  | _ :: _, [] => Nat.zero_le _
  | x :: as, y :: bs => by
    rw [lcp, List.length_cons]
    by_cases h : x = y
    · rw [if_pos h]; exact Nat.succ_le_succ (lcp_le2 as bs)
    · rw [if_neg h]; exact Nat.zero_le _
theorem lcp_lt : ∀ (a b : List Nat) (k : Nat), k ≤ lcp a b → (k < lcp a b ↔ k < a.length ∧ k < b.length ∧ a[k]? = b[k]?)
  | [], b, k, h => by simp [lcp] at h ⊢
  | _ :: _, [], k, h => by simp [lcp] at h ⊢
  | x :: as, y :: bs, k, h => by
    rw [lcp] at h ⊢
    by_cases e : x = y
    · rw [if_pos e] at h ⊢
      subst e
      cases k with
      | zero => simp
      | succ k =>
        have := lcp_lt as bs k (by omega)
        simp only [List.length_cons, List.getElem?_cons_succ]
        exact ⟨fun q => have z := this.mp (by omega); ⟨by omega, by omega, z.2.2⟩, fun q => by have := this.mpr ⟨by omega, by omega, q.2.2⟩; omega⟩
    · rw [if_neg e] at h ⊢
      have : k = 0 := by omega
      subst this
      simp [e]
theorem lcp_take : ∀ (a b : List Nat) (i : Nat), i ≤ a.length → i ≤ b.length → (a.take i = b.take i ↔ i ≤ lcp a b)
  | _, _, 0, _, _ => by simp
  | [], _, i + 1, h, _ => by simp at h
  | _ :: _, [], i + 1, _, h => by simp at h
  | x :: as, y :: bs, i + 1, h1, h2 => by
    rw [lcp, List.take_succ_cons, List.take_succ_cons]
    by_cases e : x = y
    · rw [if_pos e]
      subst e
      have := lcp_take as bs i (by simpa using h1) (by simpa using h2)
      simp only [List.cons.injEq, true_and]
      exact ⟨fun q => Nat.succ_le_succ (this.mp q), fun q => this.mpr (by omega)⟩
    · rw [if_neg e]
      simp [e]
/-- how many signs at the end are left, of so many at most -/
def lcs (a b : List Nat) : Nat := lcp a.reverse b.reverse
def atOf (a b : List Nat) : Nat := lcp a b
def tailOf (a b : List Nat) : Nat := min (min a.length b.length - lcp a b) (lcs a b)
def goneOf (a b : List Nat) : List Nat := (a.drop (atOf a b)).take (a.length - tailOf a b - atOf a b)
def comeOf (a b : List Nat) : List Nat := (b.drop (atOf a b)).take (b.length - tailOf a b - atOf a b)
theorem part3 (a : List Nat) (i k : Nat) (h : i + k ≤ a.length) : a = a.take i ++ (a.drop i).take (a.length - k - i) ++ a.drop (a.length - k) := by
  have e : (a.drop i).drop (a.length - k - i) = a.drop (a.length - k) := by rw [List.drop_drop]; congr 1; omega
  rw [List.append_assoc, ← e, List.take_append_drop, List.take_append_drop]
theorem drop_rev (a : List Nat) (k : Nat) (h : k ≤ a.length) : a.drop (a.length - k) = (a.reverse.take k).reverse := by
  rw [List.take_reverse, List.reverse_reverse]
theorem tail_le (a b : List Nat) : atOf a b + tailOf a b ≤ a.length ∧ atOf a b + tailOf a b ≤ b.length := by
  unfold tailOf atOf
  have := lcp_le1 a b
  have := lcp_le2 a b
  omega
theorem tail_eq (a b : List Nat) : a.drop (a.length - tailOf a b) = b.drop (b.length - tailOf a b) := by
  have h := tail_le a b
  rw [drop_rev a _ (by omega), drop_rev b _ (by omega)]
  congr 1
  refine (lcp_take _ _ _ (by rw [List.length_reverse]; omega) (by rw [List.length_reverse]; omega)).mpr ?_
  unfold tailOf lcs
  omega
theorem head_eq (a b : List Nat) : a.take (atOf a b) = b.take (atOf a b) := (lcp_take a b _ (lcp_le1 a b) (lcp_le2 a b)).mpr (Nat.le_refl _)
/-- what both have alike ahead and behind -/
theorem change_parts (a b : List Nat) : ∃ p s, a = p ++ goneOf a b ++ s ∧ b = p ++ comeOf a b ++ s ∧ p.length = atOf a b ∧ s.length = tailOf a b := by
  have h := tail_le a b
  refine ⟨a.take (atOf a b), a.drop (a.length - tailOf a b), part3 a _ _ (by omega), ?_, by rw [List.length_take]; omega, by rw [List.length_drop]; omega⟩
  rw [head_eq, tail_eq]
  exact part3 b _ _ (by omega)
theorem change_fits (a b : List Nat) : Fits a (atOf a b : Int) (goneOf a b) ∧ doneL a (atOf a b : Int) (goneOf a b) (comeOf a b) = b := by
  obtain ⟨p, s, e1, e2, e3, _⟩ := change_parts a b
  generalize goneOf a b = g at *
  generalize comeOf a b = c at *
  rw [← e3]
  subst e1
  exact ⟨fits_of, by rw [done_of, ← e2]⟩
theorem gone_sub (a b : List Nat) : (goneOf a b).Sublist a := (List.take_sublist _ _).trans (List.drop_sublist _ _)
theorem come_sub (a b : List Nat) : (comeOf a b).Sublist b := (List.take_sublist _ _).trans (List.drop_sublist _ _)
theorem gone_len (a b : List Nat) : (goneOf a b).length + atOf a b + tailOf a b = a.length := by
  obtain ⟨p, s, e1, _, e3, e4⟩ := change_parts a b
  have := congrArg List.length e1
  simp only [List.length_append] at this
  omega
theorem come_len (a b : List Nat) : (comeOf a b).length + atOf a b + tailOf a b = b.length := by
  obtain ⟨p, s, _, e2, e3, e4⟩ := change_parts a b
  have := congrArg List.length e2
  simp only [List.length_append] at this
  omega
theorem join_ok {r : List Nat} {ls : List (List Nat)} (e : Txt.join (Str.ofString "") (ls.map S) = S r) (h : ∀ l ∈ ls, l.length = 1 ∧ Ok l) : Ok r := by
  have e0 : Str.ofString "" = S [] := by decide +kernel
  rw [e0, TL.join_eq] at e
  have e2 := congrArg TL.tl e
  rw [TL.tl_join] at e2
  have e3 : TL.joinL (TL.tl (S [])) ((ls.map S).map TL.tl) = TL.joinL [] ls := by
    have : (ls.map S).map TL.tl = ls := by rw [List.map_map]; exact (List.map_congr_left fun l _ => by simp [TL.tl]).trans (List.map_id ls)
    rw [this]
  rw [e3] at e2
  have e4 : ∀ m : List (List Nat), TL.joinL [] m = m.flatten := fun m => by
    induction m with
    | nil => rfl
    | cons a m ih =>
      cases m with
      | nil => simp [TL.joinL]
      | cons b m => rw [TL.joinL, ih]; rfl
  rw [e4] at e2
  have e5 : r = ls.flatten := by
    have : TL.tl (S r) = r := by simp [TL.tl]
    rw [this] at e2
    exact e2.symm
  subst e5
  intro c hc
  obtain ⟨l, hl, hcl⟩ := List.mem_flatten.mp hc
  exact (h l hl).2 c hcl
theorem r_join1 {K : PySem.W.Frag} {D : Addr} {H : Hp} {Q : VK} {ls : List (List Nat)} (hl : ∀ l ∈ ls, l.length = 1 ∧ Ok l) (e : H D = some (.lst (ls.map fun l => V.str (S l)))) (hn : ls.length ≤ 1000000)
    (h : ∀ r : List Nat, r.length = ls.length → Ok r → Q (.str (S r)) H) : rJoin K (.str (Str.ofString "")) [.ref D] H Q := by
  obtain ⟨r, er⟩ := S_of (Txt.join (Str.ofString "") (ls.map S))
  have hs : (ls.map S).map Str.length = ls.map fun _ => 1 := by
    rw [List.map_map]
    refine List.map_congr_left fun l h => ?_
    show (S l).length = 1
    rw [S_len, (hl l h).1]
  have sum1 : ∀ m : List (List Nat), (m.map fun _ => 1).sum = m.length := fun m => by
    induction m with
    | nil => rfl
    | cons a m ih => rw [List.map_cons, List.sum_cons, ih, List.length_cons]; omega
  refine ⟨_, D, ls.map S, rfl, rfl, .inl (.of (by rw [List.map_map]; exact e)), ?_, ?_⟩
  · rw [hs, sum1, List.length_map]
    show ls.length + ls.length * 0 ≤ 16777216
    omega
  · rw [er]
    refine h r ?_ (join_ok er hl)
    have q := size_glued (Str.ofString "") (ls.map S)
    rw [hs, sum1, List.length_map] at q
    have q2 : (S r).length = ls.length + (ls.length - 1) * (Str.ofString "").length := by rw [← er]; exact q
    rw [S_len] at q2
    have q3 : (Str.ofString "").length = 0 := by decide +kernel
    rw [q3] at q2
    omega

/-- all that both have alike, ahead and behind -/
def mostOf (a b : List Nat) : Nat := min (min a.length b.length) (lcp a b + lcs a b)
theorem most_eq (a b : List Nat) : mostOf a b = atOf a b + tailOf a b := by
  unfold mostOf atOf tailOf
  have := lcp_le1 a b
  have := lcp_le2 a b
  omega
theorem drop_eq_iff (a b : List Nat) (k : Nat) (ha : k ≤ a.length) (hb : k ≤ b.length) : a.drop (a.length - k) = b.drop (b.length - k) ↔ k ≤ lcs a b := by
  rw [drop_rev a k ha, drop_rev b k hb]
  rw [show (a.reverse.take k).reverse = (b.reverse.take k).reverse ↔ a.reverse.take k = b.reverse.take k from ⟨fun h => List.reverse_inj.mp h, fun h => by rw [h]⟩]
  exact lcp_take _ _ _ (by rw [List.length_reverse]; exact ha) (by rw [List.length_reverse]; exact hb)
def mo (n l i : Nat) : Nat := if i = 0 then 0 else min n (i - 1 + l)
theorem mo_succ (n l i : Nat) : mo n l (i + 1) = min n (i + l) := by
  unfold mo
  rw [if_neg (by omega), Nat.add_sub_cancel]
theorem mo_le (n l i : Nat) : mo n l i ≤ min n (i + l) := by
  unfold mo
  by_cases h : i = 0
  · rw [if_pos h]; omega
  · rw [if_neg h]; omega
/-- the signs at the place differ, or a text ends there -/
theorem at_differ (a b : List Nat) (h1 : atOf a b < a.length) (h2 : atOf a b < b.length) : a[atOf a b]? ≠ b[atOf a b]? := fun e => by
  have := (lcp_lt a b (lcp a b) (Nat.le_refl _)).mpr ⟨h1, h2, e⟩
  omega
/-- so do the last ones of what goes and of what comes -/
theorem last_differ (a b : List Nat) (h1 : goneOf a b ≠ []) (h2 : comeOf a b ≠ []) : (goneOf a b).getLast? ≠ (comeOf a b).getLast? := by
  have g1 := gone_len a b
  have g2 := come_len a b
  have p1 : 0 < (goneOf a b).length := List.length_pos_iff.mpr h1
  have p2 : 0 < (comeOf a b).length := List.length_pos_iff.mpr h2
  obtain ⟨p, s, e1, e2, e3, e4⟩ := change_parts a b
  intro e
  have hk : lcs a b ≤ tailOf a b := by
    unfold tailOf atOf at *
    omega
  have hl := (lcp_lt a.reverse b.reverse (lcs a b) (Nat.le_refl _)).mpr
  rw [List.length_reverse, List.length_reverse] at hl
  have hz : tailOf a b = lcs a b := Nat.le_antisymm (Nat.min_le_right _ _) hk
  have idx : ∀ (g : List Nat), 0 < g.length → (p ++ g ++ s).reverse[lcs a b]? = g.getLast? := fun g hg => by
    rw [List.reverse_append, List.getElem?_append_right (by rw [List.length_reverse]; omega), List.length_reverse, show lcs a b - s.length = 0 by omega, List.reverse_append, List.getElem?_append_left (by rw [List.length_reverse]; omega), List.getElem?_reverse (by omega), List.getLast?_eq_getElem?, Nat.sub_zero]
  have := hl ⟨by omega, by omega, by
    have i1 := idx _ p1
    have i2 := idx _ p2
    rw [← e1] at i1
    rw [← e2] at i2
    rw [i1, i2]
    exact e⟩
  unfold lcs at *
  omega
end Pk
/-! PkF: the mathematics of trees of versions: chains, how far two versions stand apart, reach and middle. -/
namespace Pk
open PySem PySem.Spec L2
/-- numbers without a double among others are not more -/
theorem nodup_len {α : Type} : ∀ (l m : List α), l.Nodup → (∀ x ∈ l, x ∈ m) → l.length ≤ m.length
  | [], _, _, _ => Nat.zero_le _
  | a :: l, m, nd, h => by
    rw [List.nodup_cons] at nd
    obtain ⟨s, t, rfl⟩ := List.append_of_mem (h a List.mem_cons_self)
    have := nodup_len l (s ++ t) nd.2 fun x hx => by
      have := h x (List.mem_cons_of_mem _ hx)
      rcases List.mem_append.mp this with q | q
      · exact List.mem_append_left _ q
      · rcases List.mem_cons.mp q with q | q
        · subst q; exact absurd hx nd.1
        · exact List.mem_append_right _ q
    simp only [List.length_append, List.length_cons] at *
    omega
abbrev keysOf {β : Type} (lv : List (Int × β)) : List Int := lv.map Prod.fst
theorem look_some {β : Type} {lv : List (Int × β)} {n : Int} : (look lv n).isSome ↔ n ∈ keysOf lv := by
  cases e : look lv n with
  | none => have := look_none.mp e; simp [this]
  | some b =>
    have : n ∈ keysOf lv := List.mem_map.mpr ⟨(n, b), look_mem e, rfl⟩
    simp [this]
/-! ### chains -/
section
variable {lv : List (Int × Option Int)}
/-- behind each of its numbers a chain is that number's -/
theorem Ch.suffix {n : Int} {c : List Int} (h : Ch lv n c) : ∀ {x : Int} {p s : List Int}, c = p ++ x :: s → Ch lv x (x :: s) := by
  induction h with
  | @whole n e =>
    intro x p s q
    cases p with
    | nil => cases q; exact .whole e
    | cons a p => simp at q
  | @lean n b c e hb ih =>
    intro x p s q
    cases p with
    | nil => cases q; exact .lean e hb
    | cons a p =>
      injection q with q1 q2
      exact ih q2
theorem Ch.mem {n : Int} {c : List Int} (h : Ch lv n c) {x : Int} (hx : x ∈ c) : ∃ p s, c = p ++ x :: s ∧ Ch lv x (x :: s) := by
  obtain ⟨p, s, e⟩ := List.append_of_mem hx
  exact ⟨p, s, e, h.suffix e⟩
theorem Ch.nodup {n : Int} {c : List Int} (h : Ch lv n c) : c.Nodup := by
  induction h with
  | whole e => simp
  | @lean n b c e hb ih =>
    rw [List.nodup_cons]
    refine ⟨fun hn => ?_, ih⟩
    obtain ⟨p, s, e2, h2⟩ := hb.mem hn
    have h3 : Ch lv n (n :: c) := .lean e hb
    have := congrArg List.length (h2.inj h3)
    have := congrArg List.length e2
    simp only [List.length_append, List.length_cons] at *
    omega
theorem Ch.keys {n : Int} {c : List Int} (h : Ch lv n c) : ∀ x ∈ c, x ∈ keysOf lv := fun x hx => by
  obtain ⟨p, s, _, h2⟩ := h.mem hx
  obtain ⟨o, e⟩ := h2.look
  exact look_some.mp (by rw [e]; rfl)
theorem Ch.len {n : Int} {c : List Int} (h : Ch lv n c) : c.length ≤ lv.length := by
  have := nodup_len c (keysOf lv) h.nodup h.keys
  rw [List.length_map] at this
  exact this
/-- the last of a chain -/
def lastOf (c : List Int) : Int := c.getLast?.getD 0
theorem lastOf_app (p : List Int) (x : Int) (s : List Int) : lastOf (p ++ x :: s) = lastOf (x :: s) := by
  unfold lastOf
  rw [List.getLast?_append]
  cases e : (x :: s).getLast? with
  | none => simp at e
  | some y => rfl
theorem lastOf_cons (x y : Int) (s : List Int) : lastOf (x :: y :: s) = lastOf (y :: s) := lastOf_app [x] y s
theorem Ch.last {n : Int} {c : List Int} (h : Ch lv n c) : lastOf c ∈ c ∧ Pk.look lv (lastOf c) = some none := by
  induction h with
  | @whole n e => exact ⟨List.mem_cons_self, e⟩
  | @lean n b c e hb ih =>
    obtain ⟨r, rfl⟩ := hb.head
    rw [lastOf_cons]
    exact ⟨List.mem_cons_of_mem _ ih.1, ih.2⟩
theorem Ch.last_of_mem {n x : Int} {c d : List Int} (h : Ch lv n c) (hx : x ∈ c) (hd : Ch lv x d) : lastOf d = lastOf c := by
  obtain ⟨p, s, e, h2⟩ := h.mem hx
  rw [hd.inj h2, e, lastOf_app]
/-! ### how far apart -/
def btw : List Int → List Int → Nat
  | [], _ => 0
  | x :: r, c => if x ∈ c then c.idxOf x else btw r c + 1
theorem idx_app {x : Int} {p s : List Int} (h : x ∉ p) : (p ++ x :: s).idxOf x = p.length := by
  rw [List.idxOf_append, if_neg h, List.idxOf_cons_self]
  omega
/-- two chains of a tree: what they have ahead of the first version on both -/
theorem split2 {n m : Int} {c d : List Int} (h : Ch lv n c) (g : Ch lv m d) (e : lastOf c = lastOf d) :
    ∃ p q z t, c = p ++ z :: t ∧ d = q ++ z :: t ∧ (∀ x ∈ p, x ∉ d) ∧ (∀ x ∈ q, x ∉ c) := by
  have key : ∀ (c1 : List Int), (∃ c0, c = c0 ++ c1) → (∃ x ∈ c1, x ∈ d) → ∃ p z t, c1 = p ++ z :: t ∧ z ∈ d ∧ ∀ x ∈ p, x ∉ d := fun c1 => by
    induction c1 with
    | nil => intro _ ⟨x, hx, _⟩; cases hx
    | cons a r ih =>
      intro ⟨c0, e0⟩ ⟨x, hx, hd⟩
      by_cases ha : a ∈ d
      · exact ⟨[], a, r, rfl, ha, fun _ z => by cases z⟩
      · rcases List.mem_cons.mp hx with q | q
        · subst q; exact absurd hd ha
        · obtain ⟨p, z, t, e1, e2, e3⟩ := ih ⟨c0 ++ [a], by rw [e0]; simp⟩ ⟨x, q, hd⟩
          exact ⟨a :: p, z, t, by rw [e1]; rfl, e2, fun y hy => by
            rcases List.mem_cons.mp hy with q | q
            · subst q; exact ha
            · exact e3 y q⟩
  obtain ⟨p, z, t, e1, hz, hp⟩ := key c ⟨[], rfl⟩ ⟨lastOf c, h.last.1, by rw [e]; exact g.last.1⟩
  obtain ⟨q, t2, e2, h2⟩ := g.mem hz
  have h1 := h.suffix e1
  have et := h1.inj h2
  injection et with _ et
  subst et
  refine ⟨p, q, z, t, e1, e2, hp, fun x hx hc => ?_⟩
  rw [e1] at hc
  rcases List.mem_append.mp hc with k | k
  · exact hp x k (by rw [e2]; exact List.mem_append_left _ hx)
  · have nd := g.nodup
    rw [e2, List.nodup_append] at nd
    exact nd.2.2 x hx x k rfl
theorem btw_split {p q t : List Int} {z : Int} (hp : ∀ x ∈ p, x ∉ q ++ z :: t) (hz : z ∉ q) : btw (p ++ z :: t) (q ++ z :: t) = p.length + q.length := by
  induction p with
  | nil =>
    show (if z ∈ q ++ z :: t then (q ++ z :: t).idxOf z else _) = _
    rw [if_pos (by simp), idx_app hz]
    simp
  | cons a p ih =>
    show (if a ∈ q ++ z :: t then _ else btw (p ++ z :: t) (q ++ z :: t) + 1) = _
    rw [if_neg (hp a List.mem_cons_self), ih fun x hx => hp x (List.mem_cons_of_mem _ hx), List.length_cons]
    omega
theorem btw_val {n m : Int} {c d : List Int} (h : Ch lv n c) (g : Ch lv m d) (e : lastOf c = lastOf d) : ∃ p q z t, c = p ++ z :: t ∧ d = q ++ z :: t ∧ btw c d = p.length + q.length ∧ btw d c = p.length + q.length := by
  obtain ⟨p, q, z, t, e1, e2, hp, hq⟩ := split2 h g e
  refine ⟨p, q, z, t, e1, e2, ?_, ?_⟩
  · rw [e1, e2]
    exact btw_split (by rw [← e2]; exact hp) fun hz => hq z hz (by rw [e1]; simp)
  · rw [e1, e2, btw_split (by rw [← e1]; exact hq) fun hz => hp z hz (by rw [e2]; simp)]
    omega
theorem btw_comm {n m : Int} {c d : List Int} (h : Ch lv n c) (g : Ch lv m d) (e : lastOf c = lastOf d) : btw c d = btw d c := by
  obtain ⟨_, _, _, _, _, _, e1, e2⟩ := btw_val h g e
  rw [e1, e2]
theorem btw_le {n m : Int} {c d : List Int} (h : Ch lv n c) (g : Ch lv m d) (e : lastOf c = lastOf d) : btw c d + 2 ≤ c.length + d.length := by
  obtain ⟨p, q, z, t, e1, e2, e3, _⟩ := btw_val h g e
  have := congrArg List.length e1
  have := congrArg List.length e2
  simp only [List.length_append, List.length_cons] at *
  omega
/-- a step to the base, seen from d -/
theorem btw_step {n b m : Int} {c d : List Int} (e : look lv n = some (some b)) (hb : Ch lv b c) (g : Ch lv m d) (el : lastOf c = lastOf d) :
    (n ∈ d ∧ btw c d = btw (n :: c) d + 1) ∨ (n ∉ d ∧ btw (n :: c) d = btw c d + 1) := by
  by_cases hn : n ∈ d
  · left
    refine ⟨hn, ?_⟩
    obtain ⟨q, s, ed, h2⟩ := g.mem hn
    have h3 := h2.inj (.lean e hb)
    injection h3 with _ h3
    subst h3
    have nd := g.nodup
    obtain ⟨r, rfl⟩ := hb.head
    rw [ed, List.nodup_append] at nd
    have hq1 : n ∉ q := fun k => nd.2.2 n k n List.mem_cons_self rfl
    have hq2 : b ∉ q := fun k => nd.2.2 b k b (by simp) rfl
    have hnb : n ≠ b := fun k => by
      have := nd.2.1
      rw [List.nodup_cons] at this
      exact this.1 (by rw [k]; simp)
    show btw (b :: r) d = (if n ∈ d then d.idxOf n else _) + 1
    rw [if_pos hn]
    show (if b ∈ d then d.idxOf b else _) = _
    rw [if_pos (by rw [ed]; simp), ed, idx_app hq1, show q ++ n :: b :: r = (q ++ [n]) ++ b :: r by simp, idx_app (by simp only [List.mem_append, List.mem_singleton]; exact fun k => k.elim hq2 fun z => hnb z.symm)]
    simp
  · right
    refine ⟨hn, ?_⟩
    show (if n ∈ d then _ else btw c d + 1) = _
    rw [if_neg hn]
theorem btw_self {m : Int} {d : List Int} (g : Ch lv m d) : btw d d = 0 := by
  obtain ⟨r, rfl⟩ := g.head
  show (if m ∈ m :: r then (m :: r).idxOf m else _) = 0
  rw [if_pos List.mem_cons_self, List.idxOf_cons_self]
theorem btw_zero {n m : Int} {c d : List Int} (h : Ch lv n c) (g : Ch lv m d) (e : lastOf c = lastOf d) (z : btw c d = 0) : n = m := by
  obtain ⟨p, q, w, t, e1, e2, e3, _⟩ := btw_val h g e
  have hp : p = [] := List.eq_nil_of_length_eq_zero (by omega)
  have hq : q = [] := List.eq_nil_of_length_eq_zero (by omega)
  subst hp hq
  obtain ⟨r, rfl⟩ := h.head
  obtain ⟨s, rfl⟩ := g.head
  injection e1 with e1 _
  injection e2 with e2 _
  rw [e1, e2]
end
/-! ### trees -/
structure Forest (lv : List (Int × Option Int)) : Prop where
  nd : (keysOf lv).Nodup
  wf : ∃ rk, Wood lv rk
  len : lv.length ≤ 1000
section
variable {lv : List (Int × Option Int)}
theorem Forest.ch (F : Forest lv) {n : Int} (h : n ∈ keysOf lv) : ∃ c, Ch lv n c := by
  obtain ⟨rk, w⟩ := F.wf
  obtain ⟨c, hc, _⟩ := w.ch (rk n) n (Nat.le_refl _) (look_some.mpr h)
  exact ⟨c, hc⟩
def Adj (lv : List (Int × Option Int)) (x y : Int) : Prop := look lv x = some (some y) ∨ look lv y = some (some x)
/-- x stands so far from the version whose chain is d, in its tree -/
def Far (lv : List (Int × Option Int)) (d : List Int) (x : Int) (k : Nat) : Prop := ∃ c, Ch lv x c ∧ lastOf c = lastOf d ∧ btw c d = k
theorem Far.inj {d : List Int} {x : Int} {j k : Nat} (h : Far lv d x j) (g : Far lv d x k) : j = k := by
  obtain ⟨c, hc, _, e⟩ := h
  obtain ⟨c2, hc2, _, e2⟩ := g
  rw [hc.inj hc2] at e
  omega
theorem Far.key {d : List Int} {x : Int} {k : Nat} (h : Far lv d x k) : x ∈ keysOf lv := by
  obtain ⟨c, hc, _⟩ := h
  obtain ⟨r, rfl⟩ := hc.head
  exact hc.keys x List.mem_cons_self
theorem Far.len {m : Int} {d : List Int} (g : Ch lv m d) {x : Int} {k : Nat} (h : Far lv d x k) : k ≤ 2 * lv.length := by
  obtain ⟨c, hc, e, rfl⟩ := h
  have := btw_le hc g e
  have := hc.len
  have := g.len
  omega
/-- a neighbour stands one farther or one nearer -/
theorem Far.adj {m : Int} {d : List Int} (g : Ch lv m d) (F : Forest lv) {x y : Int} {k : Nat} (h : Far lv d x k) (a : Adj lv x y) : ∃ j, Far lv d y j ∧ (j = k + 1 ∨ k = j + 1) := by
  obtain ⟨c, hc, e, rfl⟩ := h
  rcases a with a | a
  · cases hc with
    | whole e2 => rw [e2] at a; cases a
    | @lean _ b c e2 hb =>
      rw [e2] at a; cases a
      obtain ⟨r, rfl⟩ := hb.head
      rw [lastOf_cons] at e
      refine ⟨_, ⟨_, hb, e, rfl⟩, ?_⟩
      rcases btw_step e2 hb g e with ⟨_, q⟩ | ⟨_, q⟩ <;> omega
  · have hy : Ch lv y (y :: c) := .lean a hc
    obtain ⟨r, rfl⟩ := hc.head
    refine ⟨_, ⟨_, hy, by rw [lastOf_cons]; exact e, rfl⟩, ?_⟩
    rcases btw_step a hc g e with ⟨_, q⟩ | ⟨_, q⟩ <;> omega
/-- who stands farther than nought has a neighbour that stands one nearer -/
theorem Far.nearer {m : Int} {d : List Int} (g : Ch lv m d) {y : Int} {k : Nat} (h : Far lv d y (k + 1)) : ∃ x, Far lv d x k ∧ Adj lv x y := by
  obtain ⟨c, hc, e, ek⟩ := h
  by_cases hy : y ∈ d
  · obtain ⟨q, s, ed, h2⟩ := g.mem hy
    have ec := hc.inj h2
    subst ec
    have nd := g.nodup
    rw [ed, List.nodup_append] at nd
    have hq : y ∉ q := fun k => nd.2.2 y k y List.mem_cons_self rfl
    have el : btw (y :: s) d = q.length := by
      show (if y ∈ d then d.idxOf y else _) = _
      rw [if_pos hy, ed, idx_app hq]
    rw [el] at ek
    obtain ⟨q2, x, rfl⟩ : ∃ q2 x, q = q2 ++ [x] := ⟨q.dropLast, q.getLast (by intro z; rw [z] at ek; cases ek), (List.dropLast_concat_getLast _).symm⟩
    have ed2 : d = q2 ++ x :: (y :: s) := by rw [ed]; simp
    have hx := g.suffix ed2
    have hq3 : x ∉ q2 := fun k => by
      have := nd.1
      rw [List.nodup_append] at this
      exact this.2.2 x k x List.mem_cons_self rfl
    refine ⟨x, ⟨_, hx, by rw [ed2, lastOf_app], ?_⟩, ?_⟩
    · show (if x ∈ d then d.idxOf x else _) = _
      rw [if_pos (by rw [ed2]; simp), ed2, idx_app hq3]
      simp at ek
      omega
    · cases hx with
      | lean e3 hb =>
        obtain ⟨r, er⟩ := hb.head
        injection er with er _
        subst er
        exact .inl e3
  · cases hc with
    | whole e2 =>
      exfalso
      apply hy
      have : lastOf [y] = y := rfl
      rw [this] at e
      rw [e]
      exact g.last.1
    | @lean _ b c e2 hb =>
      obtain ⟨r, rfl⟩ := hb.head
      rw [lastOf_cons] at e
      refine ⟨b, ⟨_, hb, e, ?_⟩, .inr e2⟩
      rcases btw_step e2 hb g e with ⟨q, _⟩ | ⟨_, q⟩
      · exact absurd q hy
      · omega
/-- a version's reach -/
def RS (lv : List (Int × Option Int)) (n : Int) (r : Nat) : Prop := ∃ d, Ch lv n d ∧ (∃ x, Far lv d x r) ∧ ∀ x k, Far lv d x k → k ≤ r
theorem RS.inj {n : Int} {r s : Nat} (h : RS lv n r) (g : RS lv n s) : r = s := by
  obtain ⟨d, hd, ⟨x, hx⟩, hm⟩ := h
  obtain ⟨d2, hd2, ⟨y, hy⟩, hm2⟩ := g
  have := hd.inj hd2
  subst this
  have := hm _ _ hy
  have := hm2 _ _ hx
  omega
/-- in the tree of n -/
def InTree (lv : List (Int × Option Int)) (n x : Int) : Prop := ∃ c d, Ch lv n c ∧ Ch lv x d ∧ lastOf d = lastOf c
/-- the middle of a version's tree -/
def MS (lv : List (Int × Option Int)) (n m : Int) : Prop := InTree lv n m ∧ ∃ r, RS lv m r ∧ ∀ x s, InTree lv n x → RS lv x s → r ≤ s ∧ (s = r → x ≤ m)
end
end Pk
/-! PkG: dicts that are walked (locked meanwhile), dicts with marks, lists of numbers. -/
namespace Pk
open PySem PySem.Spec L2
/-- the heap but for what stands at d -/
def Off (d : Addr) (H H1 : Hp) : Prop := (∃ o, H1 d = some o) ∧ ∀ b o, b ≠ d → H b = some o → H1 b = some o
section
variable {d p : Addr} {H0 H H1 : Hp} {u o : HO}
theorem Off.of (s : Same H0 H) (c : Chg d u H H1) : Off d H0 H1 := ⟨⟨_, c.1⟩, fun b o n e => c.2 b o n (s b o e)⟩
theorem Off.sm (f : Off d H0 H) (s : Same H H1) : Off d H0 H1 := ⟨f.1.imp fun o e => s _ _ e, fun b o n e => s _ _ (f.2 b o n e)⟩
theorem Off.ne (f : Off d H0 H) (e : H p = none) : p ≠ d := fun z => by
  obtain ⟨o, h⟩ := f.1
  rw [z, h] at e; cases e
theorem Off.free (f : Off d H0 H) (e : H p = none) : H0 p = none := by
  cases h : H0 p with
  | none => rfl
  | some o => have := f.2 p o (f.ne e) h; rw [e] at this; cases this
theorem Off.chg (f : Off d H0 H) (e : H0 p = none) (np : p ≠ d) (c : Chg p o H H1) : Off d H0 H1 := ⟨f.1.imp fun o h => c.2 d o np.symm h, fun b o n h => c.2 b o (ne_of_none h e) (f.2 b o n h)⟩
theorem Off.back (f : Off d H0 H) (e : H0 d = some u) (c : Chg d u H H1) : Same H0 H1 := fun b o h => by
  by_cases z : b = d
  · subst z; rw [e] at h; cases h; exact c.1
  · exact c.2 b o z (f.2 b o z h)
theorem Off.at (f : Off d H0 H) (e : H0 p = some o) (np : p ≠ d) : H p = some o := f.2 p o np e
theorem ne_val {a b : Addr} {H : Hp} {x y : HO} (h1 : H a = some x) (h2 : H b = some y) (n : x ≠ y) : a ≠ b := fun e => by
  subst e; rw [h1] at h2; cases h2; exact n rfl
end
section
variable {d : Addr} {kvs : List (Key × V)} {H : Hp} {nx : St → Hp → Prop} {rt : VK} {bk ct : St → Hp → Prop} {σ : St} {t : TS} {te : TE} {Q : VK}
/-- at the end of a lock -/
def Un (d : Addr) (od : Obj) (kvs : List (Key × V)) (F : Hp → Prop) (H : Hp) : Prop := H d = some (.frz od (.dK kvs)) ∧ F (upd H d (.dK kvs))
theorem un {od : Obj} {F : Hp → Prop} (e : H d = some (.frz od (.dK kvs))) (h : ∀ H2, Chg d (.dK kvs) H H2 → F H2) : Un d od kvs F H := ⟨e, h _ chg_upd⟩
theorem r_lock (e : H d = some (.dK kvs)) (h : ∀ od H1, Chg d (.frz od (.dK kvs)) H H1 → t ⟨fun σ' H' => Un d od kvs (nx σ') H', fun v H' => Un d od kvs (rt v) H', fun σ' H' => Un d od kvs (bk σ') H', fun σ' H' => Un d od kvs (ct σ') H'⟩ σ H1) :
    tLock t ⟨nx, rt, bk, ct⟩ σ H := ⟨d, _, e, trivial, fun od => h od _ chg_upd⟩
theorem r_lockE (e : H d = some (.dK kvs)) (h : ∀ od H1, Chg d (.frz od (.dK kvs)) H H1 → te σ H1 fun v H' => Un d od kvs (Q v) H') : tLockE te σ H Q := ⟨d, _, e, trivial, fun od => h od _ chg_upd⟩
theorem r_disp1 {ta tb : TE} {n : Int} {v : V} (ha : ∀ H1 (Q : VK), Q (.int n) H1 → ta σ H1 Q) (hb : ∀ H1 (Q : VK), Q v H1 → tb σ H1 Q) (h : Nw H (.dK [(.inl n, v)]) Q) : tDisp [(ta, tb)] σ H Q := by
  intro p hp
  show ta σ (upd H p (.dK [])) fun x H1 => _
  refine ha _ _ (hb _ _ ?_)
  refine ⟨upd_same, [(.inl n, v)], rfl, (show 1 ≤ 15 by decide), ?_⟩
  have e : upd (upd H p (.dK [])) p (.dK (mergeK [] [(Sum.inl n, v)])) = upd H p (.dK [(.inl n, v)]) := by
    rw [upd_upd]
    rfl
  rw [e]
  exact h.go p hp
end
/-! ### dicts from numbers to values -/
def nK (f : Int → V) (ks : List Int) : List (Key × V) := ks.map fun n => (.inl n, f n)
theorem nK_val (f : Int → V) (n : Int) : ∀ ks : List Int, valV (nK f ks) (.inl n) = if n ∈ ks then some (f n) else none
  | [] => rfl
  | a :: r => by
    have ih := nK_val f n r
    unfold valV nK at *
    rw [List.map_cons, List.find?_cons]
    by_cases h : a = n
    · subst h; simp
    · have e : decide ((Sum.inl a : Key) = Sum.inl n) = false := decide_eq_false fun q => h (Sum.inl.inj q)
      simp only [e]
      rw [ih]
      have h2 : n ≠ a := fun z => h z.symm
      simp [h2]
theorem nK_in {f : Int → V} {n : Int} {ks : List Int} (h : n ∈ ks) : valV (nK f ks) (.inl n) = some (f n) := by rw [nK_val, if_pos h]
theorem nK_put {f : Int → V} {n : Int} {ks : List Int} (h : n ∉ ks) : putK (nK f ks) (.inl n) (f n) = nK f (ks ++ [n]) := by
  rw [putK_new _ (by rw [nK_val, if_neg h])]
  unfold nK
  rw [List.map_append]
  rfl
theorem nK_len (f : Int → V) (ks : List Int) : (nK f ks).length = ks.length := List.length_map _
theorem nK_congr {f g : Int → V} {ks : List Int} (h : ∀ n ∈ ks, f n = g n) : nK f ks = nK g ks := List.map_congr_left fun n hn => by rw [h n hn]
theorem bK_at {lv : List (Int × Option Int)} {i : Nat} (h : i < lv.length) : (bK lv)[i]? = some (.inl lv[i].1, obV lv[i].2) := by
  unfold bK
  rw [List.getElem?_map, List.getElem?_eq_getElem h]
  rfl
theorem nK_at {f : Int → V} {ks : List Int} {i : Nat} (h : i < ks.length) : (nK f ks)[i]? = some (.inl ks[i], f ks[i]) := by
  unfold nK
  rw [List.getElem?_map, List.getElem?_eq_getElem h]
  rfl
theorem take_succ {α : Type} {l : List α} {i : Nat} (h : i < l.length) : l.take (i + 1) = l.take i ++ [l[i]] := by
  rw [List.take_add_one, List.getElem?_eq_getElem h]; rfl
def fu {α : Type} (f : Int → α) (k : Int) (v : α) (n : Int) : α := if n = k then v else f n
theorem fu_eq {α : Type} {f : Int → α} {k : Int} {v : α} : fu f k v k = v := if_pos rfl
theorem fu_ne {α : Type} {f : Int → α} {k n : Int} {v : α} (h : n ≠ k) : fu f k v n = f n := if_neg h
theorem last_at {lv : List (Int × Option Int)} {c : List Int} {x : Int} (hc : Ch lv x c) : atI (c.map V.int) (-1) = some (.int (lastOf c)) := by
  obtain ⟨r, y, rfl⟩ : ∃ r y, c = r ++ [y] := by
    obtain ⟨s, rfl⟩ := hc.head
    exact ⟨_, _, (List.dropLast_concat_getLast (List.cons_ne_nil _ _)).symm⟩
  rw [lastOf_app, List.map_append]
  exact atI_last _ _
theorem eqv_inD : ∀ c d : List Int, PyData.eqv (inD c) (inD d) = decide (c = d)
  | [], [] => rfl
  | [], b :: d => rfl
  | a :: c, [] => rfl
  | a :: c, b :: d => by
    have ih := eqv_inD c d
    unfold inD at *
    rw [PyData.eqv] at ih
    rw [List.map_cons, List.map_cons, PyData.eqv, PyData.eqvAll, ih]
    by_cases h : a = b
    · subst h
      by_cases h2 : c = d
      · subst h2; simp [PyData.eqv]
      · simp [h2]
    · have : PyData.eqv (.int a) (.int b) = false := by simp [PyData.eqv, h]
      rw [this]
      simp [h]
end Pk
open PySem PySem.Spec L2 Pk
open C8 (tCut pss_cut)

local macro_rules | `(tactic| walk_at "hp") => `(tactic| (first
  | assumption
  | (exact SqL.of (by assumption)) | (exact SqT.of (by assumption)) | (exact Rd.of (by assumption))
  | (exact sm_of (by assumption) (by assumption))
  | ((with_reducible apply sm_of); assumption; walk_at "hp")
  | ((with_reducible apply Same.seq); assumption; walk_at "hp")
  | ((with_reducible apply sm_tup); assumption; walk_at "hp")
  | ((with_reducible apply sm_rd); assumption; walk_at "hp"))) 
local macro_rules | `(tactic| walk_at "hq") => `(tactic| (first | walk_at "hp" | (solve_by_elim (maxDepth := 8) [Same.seq, sm_of, sm_tup, sm_rd, SqL.of, SqT.of, Rd.of])))
local macro_rules | `(tactic| walk_at "rv") => `(tactic| (with_reducible (first
  | refine r_v0 ?_ | refine r_v1 ?_ | refine r_v2 ?_ | refine r_v3 ?_ | refine r_v4 ?_ | refine r_v5 ?_ | refine r_v6 ?_ | refine r_v7 ?_ | refine r_v8 ?_ | refine r_v9 ?_ | refine r_v10 ?_ | refine r_v11 ?_ | refine r_v12 ?_ | refine r_v13 ?_ | refine r_n0 ?_ | refine r_n1 ?_ | refine r_n2 ?_ | refine r_n3 ?_ | refine r_n4 ?_ | refine r_n5 ?_ | refine r_n6 ?_ | refine r_n7 ?_ | refine r_n8 ?_ | refine r_n9 ?_ | refine r_n10 ?_ | refine r_n11 ?_ | refine r_n12 ?_ | refine r_n13 ?_)))
local macro_rules | `(tactic| walk_at "x1") => `(tactic| fail)
local macro_rules | `(tactic| walk_at "r1") => `(tactic| (first
  | (with_reducible (first | refine r_seq ?_ | refine r_asg ?_ | refine r_ret ?_ | refine r_ifS ?_ | refine r_next ?_ | refine r_drop ?_ | refine r_brk ?_ | refine r_raise ?_ | refine r_test ?_ | refine r_B ?_ | refine r_and ?_ | refine r_or ?_ | refine r_not ?_ | refine r_isN ?_ | refine r_notN ?_ | refine r_c ?_ | refine r_op ?_ | refine r_un ?_ | refine r_cons ?_ | refine r_nil ?_ | refine r_call ?_ | refine r_cb ?_ | refine r_andV ?_ | refine r_orV ?_ | refine r_notV ?_ | refine r_ifE ?_ | refine r_sl ?_ | refine r_noPart ?_ | refine r_part ?_ | refine r_tup ?_ | refine r_lst ?_ | refine r_bm ?_ | refine r_bm0 ?_ | refine r_dget ?_ | refine r_din ?_ | refine r_dnotin ?_ | refine r_dput ?_ | refine r_fld ?_ | refine r_meth ?_ | refine r_yes ?_ | refine r_lc ?_ | refine r_for ?_ | refine r_rng1 ?_ | refine r_rng2 ?_ | refine r_iList ?_ | refine r_iKeys ?_ | refine r_dnew ?_))
  | walk_at "rv"
  | (with_reducible (first | refine r_add ?_ | refine r_sub ?_ | refine r_neg ?_ | refine r_lt ?_ | refine r_le ?_ | refine r_gt ?_ | refine r_ge ?_ | refine r_eqI ?_ | refine r_eqS ?_ | refine r_neI ?_ | refine r_neS ?_ | refine r_max2 ?_ | refine r_min2 ?_ | refine r_blP ?_ | refine r_int ?_ | refine r_tyS ?_))
  | ((with_reducible (first | refine r_div ?_ ?_ | refine r_mod ?_ ?_ | refine r_pow ?_ ?_ | refine r_mulL ?_ ?_ | refine r_mulR ?_ ?_)); first | decide | omega)
  | ((with_reducible (first | refine r_slS ?_ ?_ | refine r_lenS ?_ ?_ | refine r_addS ?_ ?_)); (first | (exact sz (by omega)) | (exact sz (by simp only [List.length_append]; omega))))
  | ((with_reducible (first | refine r_mkT ?_ ?_ | refine r_mkL ?_ ?_)); exact sz (by simp))
  | (with_reducible (first | refine iteT ?_ | refine iteF ?_ | refine r_nT ?_ | refine r_nF ?_))
  | ((with_reducible refine r_rng1E ?_ ?_); omega)
  | ((with_reducible refine r_rng2E ?_ ?_); omega)
  | ((with_reducible apply r_iListE); (walk_at "hp"))
  | ((with_reducible apply r_tyL); (walk_at "hp"))
  | ((with_reducible apply r_ixT); (walk_at "hp"); exact rfl)
  | ((with_reducible apply r_ixL); (walk_at "hp"); exact rfl)
  | (with_reducible (first | refine r_is_int_int ?_ | refine r_is_int_bool ?_ | refine r_is_int_str ?_ | refine r_is_int_tuple ?_ | refine r_is_int_list ?_ | refine r_is_int_dict ?_ | refine r_is_str_int ?_ | refine r_is_str_bool ?_ | refine r_is_str_str ?_ | refine r_is_str_tuple ?_ | refine r_is_str_list ?_ | refine r_is_str_dict ?_ | refine r_is_bl_int ?_ | refine r_is_bl_bool ?_ | refine r_is_bl_str ?_ | refine r_is_bl_tuple ?_ | refine r_is_bl_list ?_ | refine r_is_bl_dict ?_ | refine r_is_non_int ?_ | refine r_is_non_bool ?_ | refine r_is_non_str ?_ | refine r_is_non_tuple ?_ | refine r_is_non_list ?_ | refine r_is_non_dict ?_))
  | ((with_reducible apply r_is_lst_int); (walk_at "hp"))
  | ((with_reducible apply r_is_lst_str); (walk_at "hp"))
  | ((with_reducible apply r_is_lst_tuple); (walk_at "hp"))
  | ((with_reducible apply r_is_lst_list); (walk_at "hp"))
  | ((with_reducible apply r_is_lst_dict); (walk_at "hp"))
  | ((with_reducible apply r_is_tup_int); (walk_at "hp"))
  | ((with_reducible apply r_is_tup_str); (walk_at "hp"))
  | ((with_reducible apply r_is_tup_tuple); (walk_at "hp"))
  | ((with_reducible apply r_is_tup_list); (walk_at "hp"))
  | ((with_reducible apply r_is_tup_dict); (walk_at "hp"))
  | ((with_reducible apply r_is_dK_int); (walk_at "hp"))
  | ((with_reducible apply r_is_dK_str); (walk_at "hp"))
  | ((with_reducible apply r_is_dK_tuple); (walk_at "hp"))
  | ((with_reducible apply r_is_dK_list); (walk_at "hp"))
  | ((with_reducible apply r_is_dK_dict); (walk_at "hp"))
  | ((with_reducible apply r_lenL); (walk_at "hp"))
  | ((with_reducible apply r_lenT); (walk_at "hp"))
  | ((with_reducible apply r_lenD); (walk_at "hp"))
  | walk_at "x1"
  ))
local macro_rules | `(tactic| walk_at "rd") => `(tactic| (repeat' (walk_at "r1")))
namespace Pk
def sp_chain_of (A : Ad) : Sp := fun vs H Q E => ∃ (d : Addr) (n : Int) (lv : List (Int × Option Int)) (c : List Int), vs = [.ref d, .int n] ∧ Rd H d (.dK (bK lv)) ∧ Ch lv n c ∧ c.length ≤ 100000 ∧
  Nw H (.lst (c.map V.int)) Q
theorem u_chain_of {A : Ad} {d : Addr} {n : Int} {lv : List (Int × Option Int)} {c : List Int} {H : Hp} {Q : VK} {E : XK} (h1 : Rd H d (.dK (bK lv))) (h2 : Ch lv n c) (h3 : c.length ≤ 100000) (h : Nw H (.lst (c.map V.int)) Q) : sp_chain_of A [.ref d, .int n] H Q E := ⟨d, n, lv, c, rfl, h1, h2, h3, h⟩
def t_chain_of (A : Ad) (E : XK) : TS := tSeq (tAsg (tLst (tCons (tVar 1) (tNil))) (gName 2)) (tSeq (tWhile (tB (tNotN (tDGet (tVar 0) (tOp (rIx A.K) (tVar 2) (tUn rNeg (tC (.int 1))))))) (tDrop (tBM A.K "list" rAppend (tVar 2) (tCons (tDGet (tVar 0) (tOp (rIx A.K) (tVar 2) (tUn rNeg (tC (.int 1))))) (tNil))))) (tRet (tVar 2)))
theorem p_chain_of (A : Ad) {vs : List V} {H : Hp} {Q : VK} {E : XK} (h : sp_chain_of A vs H Q E) : t_chain_of A E { nx := fun _ H2 => Q .non H2, rt := Q } (start ["bases", "number", "chain"] vs) H := by
  obtain ⟨d, n, lv, c, rfl, hR, hc, hl, h1⟩ := h
  change t_chain_of A E _ [_, _, none] _
  unfold t_chain_of
  walk_at "rd"
  intro p H1 np s1 e1
  walk_at "rd"
  refine r_while (fun σ H2 => ∃ (pre : List Int) (x : Int) (r : List Int), σ = [some (.ref d), some (.int n), some (.ref p)] ∧ Same H H2 ∧ H2 p = some (.lst (pre.map V.int ++ [.int x])) ∧ Ch lv x r ∧ c = pre ++ r)
    (fun σ H2 => match H2 p with
      | some (.lst xs) => c.length - xs.length
      | _ => 0) ⟨[], n, c, rfl, s1, e1, hc, rfl⟩ ?_
  rintro σ H2 ⟨pre, x, r, rfl, s2, e2, hx, ec⟩
  walk_at "rd"
  refine r_ixL (.of e2) (atI_last _ _) ?_
  cases hx with
  | whole ex =>
    refine r_dgetE (sm_rd s2 hR) (v := .non) (by rw [bK_val, ex]; rfl) ?_
    walk_at "rd"
    refine r_ndec (fun z => absurd rfl z) fun _ => ?_
    walk_at "rd"
    refine h1 p H2 np s2 ?_
    rw [e2, ec, List.map_append]
    rfl
  | @lean _ b r ex hb =>
    refine r_dgetE (sm_rd s2 hR) (v := .int b) (by rw [bK_val, ex]; rfl) ?_
    walk_at "rd"
    refine r_ndec (fun _ => ?_) fun z => V.noConfusion z
    refine wh_body ?_
    walk_at "rd"
    refine r_ixL (.of e2) (atI_last _ _) ?_
    refine r_dgetE (sm_rd s2 hR) (v := .int b) (by rw [bK_val, ex]; rfl) ?_
    walk_at "rd"
    have lc := congrArg List.length ec
    rw [List.length_append, List.length_cons] at lc
    refine r_append e2 (szl (by rw [List.length_append, List.length_map]; show pre.length + 1 < _; omega)) fun H3 c3 => ?_
    walk_at "rd"
    have e3 : H3 p = some (.lst ((pre ++ [x]).map V.int ++ [.int b])) := by rw [c3.1, List.map_append]; rfl
    refine ⟨⟨pre ++ [x], b, r, rfl, sm_chg s2 np c3, e3, hb, by rw [ec]; simp⟩, ?_⟩
    rw [e3, e2]
    have lb : 0 < r.length := by obtain ⟨q, rfl⟩ := hb.head; exact Nat.succ_pos _
    simp only [List.length_append, List.length_map, List.length_cons, List.length_nil]
    omega
def sp_tree_of (A : Ad) : Sp := fun vs H Q E => ∃ (d : Addr) (n : Int) (lv : List (Int × Option Int)), vs = [.ref d, .int n] ∧ H d = some (.dK (bK lv)) ∧ Forest lv ∧ n ∈ keysOf lv ∧
  ∀ (c : List Int) (p : Addr) (H' : Hp), (∀ x, x ∈ c ↔ InTree lv n x) → c.length ≤ lv.length → Same H H' → H p = none → H' p = some (.lst (c.map V.int)) → Q (.ref p) H'
def t_tree_of (A : Ad) (E : XK) : TS := tSeq (tAsg (tOp (rIx A.K) (tCall (sp_chain_of A) [] E0 (tCons (tVar 0) (tCons (tVar 1) (tNil)))) (tUn rNeg (tC (.int 1)))) (gName 2)) (tRet (tLockE (tLc (iKeys (tVar 0)) (gName 3) (tTest (tOp (rEqG A.K) (tOp (rIx A.K) (tCall (sp_chain_of A) [] E0 (tCons (tVar 0) (tCons (tVar 3) (tNil)))) (tUn rNeg (tC (.int 1)))) (tVar 2))) (tVar 3) [3])))
theorem p_tree_of (A : Ad) {vs : List V} {H : Hp} {Q : VK} {E : XK} (h : sp_tree_of A vs H Q E) : t_tree_of A E { nx := fun _ H2 => Q .non H2, rt := Q } (start ["bases", "number", "whole", "one"] vs) H := by
  obtain ⟨d, n, lv, rfl, hR, F, hn, h1⟩ := h
  change t_tree_of A E _ [_, _, none, none] _
  unfold t_tree_of
  walk_at "rd"
  obtain ⟨c0, hc0⟩ := F.ch hn
  have F3 := F.len
  refine u_chain_of (.of hR) hc0 (by have := hc0.len; omega) fun p1 H1 np1 s1 e1 => ?_
  walk_at "rd"
  refine r_ixL (.of e1) (last_at hc0) ?_
  walk_at "rd"
  refine r_lockE (s1 _ _ hR) fun od H2 c2 => ?_
  walk_at "rd"
  refine ⟨d, od, rfl, .inl ⟨_, c2.1, ?_⟩⟩
  have f2 : Off d H H2 := .of s1 c2
  refine lc_go walk_keys (by rw [bK_len]; omega) (fun D i acc H3 => H2 D = none ∧ Same H2 H3 ∧ ∃ c : List Int, acc = c.map V.int ∧ c.length ≤ i ∧ ∀ x, x ∈ c ↔ x ∈ (keysOf lv).take i ∧ InTree lv n x) (fun D H3 hD s3 _ => ⟨hD, s3, [], rfl, Nat.le_refl _, fun x => by simp⟩) (fun D i acc H3 hi h => h.2.1 _ _ c2.1) ?_ ?_
  · rintro D i x acc H3 H4 hi ha e ⟨hD, s3, c, rfl, hcl, hc⟩ ⟨rfl, k, v, hk, rfl⟩
    rw [bK_len] at hi
    rw [bK_at hi] at hk
    cases hk
    have hkl : i < (keysOf lv).length := by rw [List.length_map]; exact hi
    have hki : (keysOf lv)[i] = lv[i].1 := List.getElem_map _
    have hkm : lv[i].1 ∈ keysOf lv := by rw [← hki]; exact List.getElem_mem _
    obtain ⟨ci, hci⟩ := F.ch hkm
    show gName 3 (.int lv[i].1) _ _ _
    walk_at "rd"
    refine u_chain_of (sm_rd s3 (.inr ⟨od, c2.1⟩)) hci (by have := hci.len; omega) fun p5 H5 np5 s5 e5 => ?_
    walk_at "rd"
    refine r_ixL (.of e5) (last_at hci) ?_
    walk_at "rd"
    have hD5 : H5 D = _ := s5 _ _ e
    have hs5 := s3.trans s5
    have ht := take_succ hkl
    rw [hki] at ht
    refine r_dec (fun z => ?_) fun z => ?_
    · walk_at "rd"
      refine lc_end ha (by omega) hD5 fun H6 c6 => ⟨hD, sm_chg hs5 hD c6, c ++ [lv[i].1], by rw [List.map_append]; rfl, by simp; omega, fun x => ?_⟩
      rw [ht, List.mem_append, List.mem_append, hc, List.mem_singleton]
      constructor
      · rintro (q | rfl)
        · exact ⟨.inl q.1, q.2⟩
        · exact ⟨.inr rfl, c0, ci, hc0, hci, z⟩
      · rintro ⟨q | rfl, r⟩
        · exact .inl ⟨q, r⟩
        · exact .inr rfl
    · walk_at "rd"
      refine lc_not ha hD5 ⟨hD, hs5, c, rfl, by omega, fun x => ?_⟩
      rw [ht, List.mem_append, hc, List.mem_singleton]
      constructor
      · exact fun q => ⟨.inl q.1, q.2⟩
      · rintro ⟨q | rfl, r⟩
        · exact ⟨q, r⟩
        · obtain ⟨c5, c6, g1, g2, g3⟩ := r
          rw [g1.inj hc0, g2.inj hci] at g3
          exact absurd g3 z
  · rintro D acc H3 ⟨hD, s3, c, rfl, hcl, hc⟩ e
    refine un (s3 _ _ c2.1) fun H4 c4 => ?_
    have f3 := f2.sm s3
    rw [bK_len] at hcl hc
    refine h1 c D H4 (fun x => ?_) hcl (f3.back hR c4) (f2.free hD) (c4.2 _ _ (f2.ne hD) e)
    rw [hc, List.take_of_length_le (by rw [List.length_map]; omega)]
    constructor
    · exact fun q => q.2
    · refine fun q => ⟨?_, q⟩
      obtain ⟨_, d5, _, g2, _⟩ := q
      obtain ⟨s, rfl⟩ := g2.head
      exact g2.keys x List.mem_cons_self
def sp_sides (A : Ad) : Sp := fun vs H Q E => ∃ (d : Addr) (lv : List (Int × Option Int)), vs = [.ref d] ∧ H d = some (.dK (bK lv)) ∧ Forest lv ∧
  ∀ (f : Addr) (ad : Int → Addr) (nb : Int → List Int) (H' : Hp), Same H H' → H f = none → H' f = some (.dK (nK (fun n => .ref (ad n)) (keysOf lv))) →
    (∀ n ∈ keysOf lv, H (ad n) = none ∧ H' (ad n) = some (.lst ((nb n).map V.int)) ∧ (nb n).length ≤ 2000 ∧ ∀ y, y ∈ nb n ↔ Adj lv n y) → Q (.ref f) H'
def t_sides (A : Ad) (E : XK) : TS := tSeq (tAsg (tDNewK) (gName 1)) (tSeq (tLock (tFor (iKeys (tVar 0)) (gName 2) (sDPut (tVar 1) (tVar 2) (tLst (tNil))))) (tSeq (tLock (tFor (iKeys (tVar 0)) (gName 2) (tIfS (tB (tNotN (tDGet (tVar 0) (tVar 2)))) (tSeq (tDrop (tBM A.K "list" rAppend (tDGet (tVar 1) (tVar 2)) (tCons (tDGet (tVar 0) (tVar 2)) (tNil)))) (tDrop (tBM A.K "list" rAppend (tDGet (tVar 1) (tDGet (tVar 0) (tVar 2))) (tCons (tVar 2) (tNil))))) (tNext)))) (tRet (tVar 1))))
theorem p_sides (A : Ad) {vs : List V} {H : Hp} {Q : VK} {E : XK} (h : sp_sides A vs H Q E) : t_sides A E { nx := fun _ H2 => Q .non H2, rt := Q } (start ["bases", "found", "one"] vs) H := by
  obtain ⟨d, lv, rfl, hR, F, h1⟩ := h
  have F3 := F.len
  have kl : (keysOf lv).length = lv.length := List.length_map _
  change t_sides A E _ [_, none, none] _
  unfold t_sides
  walk_at "rd"
  intro f H1 nf s1 e1
  walk_at "rd"
  have hd1 := s1 _ _ hR
  have dnf : f ≠ d := fun z => by rw [z, hR] at nf; cases nf
  refine r_lock hd1 fun od H2 c2 => ?_
  walk_at "rd"
  refine ⟨d, od, rfl, .inl ⟨_, c2.1, ?_⟩⟩
  have f2 : Off d H H2 := .of s1 c2
  refine for_go walk_keys (fun i σ H3 => ∃ (y : Option V) (ad : Int → Addr), σ = [some (.ref d), some (.ref f), y] ∧ H3 d = some (.frz od (.dK (bK lv))) ∧ Off d H H3 ∧ H3 f = some (.dK (nK (fun n => .ref (ad n)) ((keysOf lv).take i))) ∧
    (∀ n ∈ (keysOf lv).take i, H (ad n) = none ∧ ad n ≠ f ∧ ad n ≠ d ∧ H3 (ad n) = some (.lst [])) ∧ ∀ n ∈ (keysOf lv).take i, ∀ m ∈ (keysOf lv).take i, ad n = ad m → n = m)
    ⟨none, fun _ => 0, rfl, c2.1, f2, c2.2 _ _ dnf e1, fun n h => by simp at h, fun n h => by simp at h⟩ (fun i σ H3 hi ⟨_, _, _, h, _⟩ => h) ?_ ?_
  · rintro i x σ H3 H4 hi ⟨y, ad, rfl, hd3, f3, e3, ha, hinj⟩ ⟨rfl, k, v, hk, rfl⟩
    rw [bK_len] at hi
    rw [bK_at hi] at hk
    cases hk
    have hkl : i < (keysOf lv).length := by omega
    have hki : (keysOf lv)[i] = lv[i].1 := List.getElem_map _
    have ht := take_succ hkl
    rw [hki] at ht
    have hno : lv[i].1 ∉ (keysOf lv).take i := fun z => by
      have nd := F.nd.sublist (List.take_sublist (i + 1) (keysOf lv))
      rw [ht, List.nodup_append] at nd
      exact nd.2.2 _ z _ (by simp) rfl
    show gName 2 (.int lv[i].1) _ _ _
    walk_at "rd"
    intro p5 H5 np5 s5 e5
    walk_at "rd"
    have e35 := s5 _ _ e3
    have p5f : p5 ≠ f := fun z => by rw [z, e3] at np5; cases np5
    have p5d : p5 ≠ d := fun z => by rw [z, hd3] at np5; cases np5
    refine r_dputE e35 (szl (by rw [nK_len, List.length_take]; omega)) fun H6 c6 => ?_
    walk_at "rd"
    refine ⟨_, fu ad lv[i].1 p5, rfl, c6.2 _ _ dnf.symm (s5 _ _ hd3), (f3.sm s5).chg nf dnf c6, ?_, ?_, ?_⟩
    · rw [c6.1, ht, ← nK_put hno]
      have q : nK (fun n => .ref (fu ad lv[i].1 p5 n)) ((keysOf lv).take i) = nK (fun n => .ref (ad n)) ((keysOf lv).take i) := nK_congr fun n hn => by rw [fu_ne fun z : n = lv[i].1 => hno (by rw [← z]; exact hn)]
      rw [q, fu_eq]
    · intro n hn
      rw [ht, List.mem_append, List.mem_singleton] at hn
      by_cases z : n = lv[i].1
      · rw [z, fu_eq]
        exact ⟨f3.free np5, p5f, p5d, c6.2 _ _ p5f e5⟩
      · rw [fu_ne z]
        obtain ⟨g1, g2, g3, g4⟩ := ha n (hn.resolve_right z)
        exact ⟨g1, g2, g3, c6.2 _ _ g2 (s5 _ _ g4)⟩
    · intro n hn m hm q
      rw [ht, List.mem_append, List.mem_singleton] at hn hm
      by_cases z : n = lv[i].1
      · by_cases z2 : m = lv[i].1
        · rw [z, z2]
        · rw [z, fu_eq, fu_ne z2] at q
          have g4 := (ha m (hm.resolve_right z2)).2.2.2
          rw [← q, np5] at g4; cases g4
      · by_cases z2 : m = lv[i].1
        · rw [z2, fu_eq, fu_ne z] at q
          have g4 := (ha n (hn.resolve_right z)).2.2.2
          rw [q, np5] at g4; cases g4
        · rw [fu_ne z, fu_ne z2] at q
          exact hinj n (hn.resolve_right z) m (hm.resolve_right z2) q
  rintro σ H3 ⟨y, ad, rfl, hd3, f3, e3, ha, hinj⟩
  rw [bK_len, List.take_of_length_le (by omega)] at e3 ha hinj
  refine un hd3 fun H4 c4 => ?_
  have s4 := f3.back hR c4
  have e4 := c4.2 _ _ dnf e3
  have ha4 : ∀ n ∈ keysOf lv, H4 (ad n) = some (.lst []) := fun n hn => c4.2 _ _ (ha n hn).2.2.1 (ha n hn).2.2.2
  walk_at "rd"
  refine r_lock c4.1 fun od2 H5 c5 => ?_
  walk_at "rd"
  refine ⟨d, od2, rfl, .inl ⟨_, c5.1, ?_⟩⟩
  obtain ⟨rk, hw⟩ := F.wf
  refine for_go walk_keys (fun i σ H6 => ∃ (y : Option V) (nb : Int → List Int), σ = [some (.ref d), some (.ref f), y] ∧ H6 d = some (.frz od2 (.dK (bK lv))) ∧ Off d H H6 ∧ H6 f = some (.dK (nK (fun n => .ref (ad n)) (keysOf lv))) ∧
    ∀ n ∈ keysOf lv, H6 (ad n) = some (.lst ((nb n).map V.int)) ∧ (nb n).length ≤ 2 * i ∧ ∀ y, y ∈ nb n ↔ (n, some y) ∈ lv.take i ∨ (y, some n) ∈ lv.take i)
    ⟨_, fun _ => [], rfl, c5.1, .of s4 c5, c5.2 _ _ dnf e4, fun n hn => ⟨c5.2 _ _ (ha n hn).2.2.1 (ha4 n hn), Nat.le_refl _, fun y => by simp⟩⟩ (fun i σ H3 hi ⟨_, _, _, h, _⟩ => h) ?_ ?_
  · rintro i x σ H6 H7 hi ⟨y, nb, rfl, hd6, f6, e6, hnb⟩ ⟨rfl, k, v, hk, rfl⟩
    rw [bK_len] at hi
    rw [bK_at hi] at hk
    cases hk
    obtain ⟨kk, hlvi⟩ : ∃ kk, kk = lv[i].1 := ⟨_, rfl⟩
    obtain ⟨oo, holi⟩ : ∃ oo, oo = lv[i].2 := ⟨_, rfl⟩
    have hpair : lv[i] = (kk, oo) := by rw [hlvi, holi]
    have ht : lv.take (i + 1) = lv.take i ++ [(kk, oo)] := by rw [take_succ hi, hpair]
    have hlk : look lv kk = some oo := look_of_mem F.nd (by rw [← hpair]; exact List.getElem_mem hi)
    have hkm : kk ∈ keysOf lv := look_some.mp (by rw [hlk]; rfl)
    show gName 2 (.int lv[i].1) _ _ _
    rw [← hlvi]
    walk_at "rd"
    have gd : ∀ {P : V → Prop}, P (obV oo) → ∃ a v, V.ref d = .ref a ∧ DGet H7 a (.int kk) (some v) ∧ P v := fun {P} h => r_dgetE (.inr ⟨_, hd6⟩) (by rw [bK_val, hlk]; rfl) h
    refine gd ?_
    walk_at "rd"
    cases oo with
    | none =>
      refine r_ndec (fun z => absurd rfl z) fun _ => ?_
      walk_at "rd"
      refine ⟨_, nb, rfl, hd6, f6, e6, fun n hn => ?_⟩
      obtain ⟨g1, g2, g3⟩ := hnb n hn
      refine ⟨g1, by omega, fun y => ?_⟩
      rw [g3, ht]
      simp
    | some b =>
      refine r_ndec (fun _ => ?_) fun z => V.noConfusion z
      obtain ⟨hb1, hb2⟩ := hw kk b hlk
      have hbm : b ∈ keysOf lv := look_some.mp hb1
      have hne : kk ≠ b := fun z => by rw [z] at hb2; omega
      have hane : ad kk ≠ ad b := fun z => hne (hinj _ hkm _ hbm z)
      walk_at "rd"
      obtain ⟨g1, g2, g3⟩ := hnb kk hkm
      refine r_dgetE (.of e6) (nK_in hkm) ?_
      walk_at "rd"
      refine gd ?_
      walk_at "rd"
      refine r_append g1 (szl (by rw [List.length_map]; omega)) fun H8 c8 => ?_
      walk_at "rd"
      obtain ⟨_, kf, kd, _⟩ := ha kk hkm
      obtain ⟨_, bf, bd, _⟩ := ha b hbm
      have hd8 := c8.2 _ _ kd.symm hd6
      have e8 := c8.2 _ _ kf.symm e6
      refine r_dgetE (.inr ⟨_, hd8⟩) (v := .int b) (by rw [bK_val, hlk]; rfl) ?_
      obtain ⟨b1, b2, b3⟩ := hnb b hbm
      have b8 := c8.2 _ _ hane.symm b1
      refine r_dgetE (.of e8) (nK_in hbm) ?_
      walk_at "rd"
      refine r_append b8 (szl (by rw [List.length_map]; omega)) fun H9 c9 => ?_
      walk_at "rd"
      refine ⟨_, fu (fu nb b (nb b ++ [kk])) kk (nb kk ++ [b]), rfl, c9.2 _ _ bd.symm hd8, (f6.chg (ha kk hkm).1 kd c8).chg (ha b hbm).1 bd c9, c9.2 _ _ bf.symm e8, fun n hn => ?_⟩
      by_cases z : n = kk
      · rw [z, fu_eq]
        refine ⟨by rw [c9.2 _ _ hane c8.1, List.map_append]; rfl, by rw [List.length_append]; show _ + 1 ≤ _; omega, fun y => ?_⟩
        rw [List.mem_append, g3, ht]
        have : b ≠ kk := hne.symm
        simp [hne, hne.symm]
        constructor
        · rintro ((q | q) | q)
          · exact .inl (.inl q)
          · exact .inr q
          · exact .inl (.inr q)
        · rintro ((q | q) | q)
          · exact .inl (.inl q)
          · exact .inr q
          · exact .inl (.inr q)
      · rw [fu_ne z]
        by_cases z2 : n = b
        · rw [z2, fu_eq]
          refine ⟨by rw [c9.1, List.map_append]; rfl, by rw [List.length_append]; show _ + 1 ≤ _; omega, fun y => ?_⟩
          rw [List.mem_append, b3, ht]
          simp [hne, hne.symm]
          constructor
          · rintro ((q | q) | q)
            · exact .inl q
            · exact .inr (.inl q)
            · exact .inr (.inr q)
          · rintro (q | q | q)
            · exact .inl (.inl q)
            · exact .inl (.inr q)
            · exact .inr q
        · rw [fu_ne z2]
          obtain ⟨g1, g2, g3⟩ := hnb n hn
          have n1 : ad n ≠ ad kk := fun q => z (hinj _ hn _ hkm q)
          have n2 : ad n ≠ ad b := fun q => z2 (hinj _ hn _ hbm q)
          refine ⟨c9.2 _ _ n2 (c8.2 _ _ n1 g1), by omega, fun y => ?_⟩
          rw [g3, ht]
          have z3 : b ≠ n := fun q => z2 q.symm
          simp [z, z2, z3]
  rintro σ H6 ⟨y, nb, rfl, hd6, f6, e6, hnb⟩
  rw [bK_len] at hnb
  refine un hd6 fun H7 c7 => ?_
  walk_at "rd"
  refine h1 f ad nb H7 (f6.back hR c7) nf (c7.2 _ _ dnf e6) fun n hn => ?_
  obtain ⟨g1, g2, g3⟩ := hnb n hn
  refine ⟨(ha n hn).1, c7.2 _ _ (ha n hn).2.2.1 g1, by omega, fun y => ?_⟩
  rw [g3, List.take_of_length_le (Nat.le_refl _)]
  unfold Adj
  exact ⟨fun q => q.imp (look_of_mem F.nd) (look_of_mem F.nd), fun q => q.imp look_mem look_mem⟩
def sp_reach (A : Ad) : Sp := fun vs H Q E => ∃ (d : Addr) (n : Int) (lv : List (Int × Option Int)), vs = [.ref d, .int n] ∧ H d = some (.dK (bK lv)) ∧ Forest lv ∧ n ∈ keysOf lv ∧
  ∀ (r : Nat) (H' : Hp), RS lv n r → Same H H' → Q (.int r) H'
theorem far_down {lv : List (Int × Option Int)} {m : Int} {d : List Int} (g : Ch lv m d) : ∀ (j : Nat) {x : Int}, Far lv d x j → ∀ i, i ≤ j → ∃ y, Far lv d y i
  | 0, x, h, i, hi => ⟨x, by rw [show i = 0 by omega]; exact h⟩
  | j + 1, x, h, i, hi => by
    by_cases z : i = j + 1
    · rw [z]; exact ⟨x, h⟩
    · obtain ⟨y, hy, _⟩ := Far.nearer g h
      exact far_down g j hy i (by omega)
def t_reach (A : Ad) (E : XK) : TS := tSeq (tAsg (tCall (sp_sides A) [] E0 (tCons (tVar 0) (tNil))) (gName 2)) (tSeq (tAsg (tDisp [(tVar 1, tC (.bl true))]) (gName 3)) (tSeq (tAsg (tLst (tCons (tVar 1) (tNil))) (gName 4)) (tSeq (tAsg (tUn rNeg (tC (.int 1))) (gName 5)) (tSeq (tWhile (tTest (tOp (rNeG A.K) (tVar 4) (tLst (tNil)))) (tSeq (tAsg (tOp rAdd3 (tVar 5) (tC (.int 1))) (gName 5)) (tSeq (tAsg (tLst (tNil)) (gName 6)) (tSeq (tFor (iList A.K (tVar 4)) (gName 7) (tFor (iList A.K (tDGet (tVar 2) (tVar 7))) (gName 8) (tIfS (tB (tDNotIn (tVar 8) (tVar 3))) (tSeq (sDPut (tVar 3) (tVar 8) (tC (.bl true))) (tDrop (tBM A.K "list" rAppend (tVar 6) (tCons (tVar 8) (tNil))))) (tNext)))) (tAsg (tVar 6) (gName 4)))))) (tRet (tVar 5))))))
theorem p_reach (A : Ad) {vs : List V} {H : Hp} {Q : VK} {E : XK} (h : sp_reach A vs H Q E) : t_reach A E { nx := fun _ H2 => Q .non H2, rt := Q } (start ["bases", "number", "near", "met", "row", "far", "more", "one", "other"] vs) H := by
  obtain ⟨d, n, lv, rfl, hR, F, hn, h1⟩ := h
  have F3 := F.len
  obtain ⟨c0, hc0⟩ := F.ch hn
  change t_reach A E _ [_, _, none, none, none, none, none, none, none] _
  unfold t_reach
  walk_at "rd"
  refine ⟨d, lv, rfl, hR, F, fun f ad nb H1 s1 nf ef hnb => ?_⟩
  walk_at "rd"
  refine r_disp1 (n := n) (v := .bl true) (fun _ _ h => ⟨_, rfl, h⟩) (fun _ _ h => h) fun m H2 nm s2 e2 => ?_
  walk_at "rd"
  intro p H3 np s3 e3
  walk_at "rd"
  have far0 : ∀ x, Far lv c0 x 0 ↔ x = n := fun x => ⟨fun ⟨c, hc, e, z⟩ => btw_zero hc hc0 e z, fun e => by subst e; exact ⟨c0, hc0, rfl, btw_self hc0⟩⟩
  have kbound : ∀ l : List Int, l.Nodup → (∀ x ∈ l, ∃ j, Far lv c0 x j) → l.length ≤ 1000 := fun l nd h => by
    have := nodup_len l (keysOf lv) nd fun x hx => (h x hx).elim fun _ q => q.key
    rw [List.length_map] at this
    omega
  refine r_while (fun σ H4 => ∃ (k : Nat) (row ks : List Int) (pr : Addr) (y6 y7 y8 : Option V), σ = [some (.ref d), some (.int n), some (.ref f), some (.ref m), some (.ref pr), some (.int ((k : Int) - 1)), y6, y7, y8] ∧ Same H1 H4 ∧
      H4 m = some (.dK (nK (fun _ => .bl true) ks)) ∧ H4 pr = some (.lst (row.map V.int)) ∧ (∀ x, x ∈ row ↔ Far lv c0 x k) ∧ (∀ x, x ∈ ks ↔ ∃ j, j ≤ k ∧ Far lv c0 x j) ∧ ks.Nodup ∧ row.Nodup ∧ (k = 0 ∨ ∃ x, Far lv c0 x (k - 1)))
    (fun σ _ => match σ with
      | [_, _, _, _, _, some (.int k), _, _, _] => 2 * lv.length + 2 - (k + 1).toNat
      | _ => 0) ⟨0, [n], [n], p, none, none, none, rfl, s2.trans s3, s3 _ _ e2, e3, fun x => by rw [far0, List.mem_singleton], fun x => ?_, by simp, by simp, .inl rfl⟩ ?_
  · rw [List.mem_singleton]
    exact ⟨fun e => ⟨0, Nat.le_refl _, (far0 x).mpr e⟩, fun ⟨j, hj, q⟩ => (far0 x).mp (by rw [show j = 0 by omega] at q; exact q)⟩
  rintro σ H4 ⟨k, row, ks, pr, y6, y7, y8, rfl, s4, em, er, hrow, hks, ndk, ndr, hk⟩
  walk_at "rd"
  intro q H5 nq s5 e5
  walk_at "rd"
  refine r_neD (inD row) (inD []) (inD_dp (.of (s5 _ _ er))) (inD_dp (c := []) (.of e5)) (inD_shaped _) (inD_shaped _) ?_
  rw [eqv_inD]
  walk_at "rd"
  refine r_ndec (fun z => ?_) fun z => ?_
  · obtain ⟨x0, hx0⟩ := List.exists_mem_of_ne_nil row z
    have hfar0 := (hrow x0).mp hx0
    have kl := Far.len hc0 hfar0
    have rl := kbound row ndr fun x hx => ⟨_, (hrow x).mp hx⟩
    refine wh_body ?_
    walk_at "rd"
    rw [show ((k : Int) - 1 + 1) = (k : Int) by omega]
    intro pm H6 npm s6 e6
    walk_at "rd"
    have er6 := s6 _ _ (s5 _ _ er)
    have em6 := s6 _ _ (s5 _ _ em)
    have pmr : pm ≠ pr := fun z => by rw [z, s5 _ _ er] at npm; cases npm
    have pmm : pm ≠ m := fun z => by rw [z, s5 _ _ em] at npm; cases npm
    have mr : m ≠ pr := ne_val em er (fun z => by cases z)
    have npm1 : H1 pm = none := (s4.trans s5).free npm
    have nm1 : H1 m = none := nm
    refine for_go walk_list (fun i σ H7 => ∃ (more : List Int) (y7 y8 : Option V), σ = [some (.ref d), some (.int n), some (.ref f), some (.ref m), some (.ref pr), some (.int (k : Int)), some (.ref pm), y7, y8] ∧ Same H1 H7 ∧
        H7 m = some (.dK (nK (fun _ => .bl true) (ks ++ more))) ∧ H7 pr = some (.lst (row.map V.int)) ∧ H7 pm = some (.lst (more.map V.int)) ∧ (ks ++ more).Nodup ∧ (∀ x ∈ more, Far lv c0 x (k + 1)) ∧ ∀ y ∈ row.take i, ∀ x, Adj lv y x → Far lv c0 x (k + 1) → x ∈ more)
      ⟨[], _, _, rfl, (s4.trans s5).trans s6, by rw [List.append_nil]; exact em6, er6, e6, by rw [List.append_nil]; exact ndk, (fun x hx => absurd hx List.not_mem_nil), fun y hy => by simp at hy⟩ (fun i σ H7 hi ⟨_, _, _, _, _, _, h, _⟩ => .of h) ?_ ?_
    · rintro i x σ H7 H8 hi ⟨more, y7, y8, rfl, s7, em7, er7, ep7, nd7, hm7, ha7⟩ ⟨rfl, hx⟩
      rw [List.length_map] at hi
      rw [List.getElem?_map, List.getElem?_eq_getElem hi] at hx
      obtain rfl := Option.some.inj hx
      have hri : row[i] ∈ row := List.getElem_mem hi
      have ht := take_succ hi
      generalize row[i] = one at *
      have hone := (hrow one).mp hri
      obtain ⟨_, g2, g3, g4⟩ := hnb one hone.key
      walk_at "rd"
      refine r_dgetE (.of (s7 _ _ ef)) (nK_in hone.key) ?_
      walk_at "rd"
      refine for_go walk_list (fun j σ H9 => ∃ (more : List Int) (y8 : Option V), σ = [some (.ref d), some (.int n), some (.ref f), some (.ref m), some (.ref pr), some (.int (k : Int)), some (.ref pm), some (.int one), y8] ∧ Same H1 H9 ∧
          H9 m = some (.dK (nK (fun _ => .bl true) (ks ++ more))) ∧ H9 pr = some (.lst (row.map V.int)) ∧ H9 pm = some (.lst (more.map V.int)) ∧ (ks ++ more).Nodup ∧ (∀ x ∈ more, Far lv c0 x (k + 1)) ∧ (∀ y ∈ row.take i, ∀ x, Adj lv y x → Far lv c0 x (k + 1) → x ∈ more) ∧
          ∀ x ∈ (nb one).take j, Far lv c0 x (k + 1) → x ∈ more)
        ⟨more, _, rfl, s7, em7, er7, ep7, nd7, hm7, ha7, fun x hx => by simp at hx⟩ (fun j σ H9 hj ⟨_, _, _, s, _⟩ => .of (s _ _ g2)) ?_ ?_
      · rintro j x σ H9 H10 hj ⟨more, y8, rfl, s9, em9, er9, ep9, nd9, hm9, ha9, hb9⟩ ⟨rfl, hx⟩
        rw [List.length_map] at hj
        rw [List.getElem?_map, List.getElem?_eq_getElem hj] at hx
        obtain rfl := Option.some.inj hx
        have hni : (nb one)[j] ∈ nb one := List.getElem_mem hj
        have ht2 := take_succ hj
        generalize (nb one)[j] = other at *
        have hadj := (g4 other).mp hni
        have bnd := kbound _ nd9 fun x hx => (List.mem_append.mp hx).elim (fun q => ((hks x).mp q).imp fun _ w => w.2) fun q => ⟨_, hm9 x q⟩
        walk_at "rd"
        refine r_dinE (.of em9) ?_
        rw [nK_val]
        by_cases hin : other ∈ ks ++ more
        · rw [if_pos hin, Option.isSome_some]
          walk_at "rd"
          refine ⟨more, _, rfl, s9, em9, er9, ep9, nd9, hm9, ha9, fun x hx hf => ?_⟩
          rw [ht2, List.mem_append, List.mem_singleton] at hx
          rcases hx with hx | rfl
          · exact hb9 x hx hf
          · rcases List.mem_append.mp hin with w | w
            · obtain ⟨j2, hj2, hf2⟩ := (hks x).mp w
              have := hf2.inj hf
              omega
            · exact w
        · rw [if_neg hin, Option.isSome_none]
          walk_at "rd"
          rw [List.length_append] at bnd
          refine r_dputE em9 (szl (by rw [nK_len, List.length_append]; omega)) fun H11 c11 => ?_
          have ep11 := c11.2 _ _ pmm ep9
          walk_at "rd"
          refine r_append ep11 (szl (by rw [List.length_map]; omega)) fun H12 c12 => ?_
          walk_at "rd"
          have hfar : Far lv c0 other (k + 1) := by
            obtain ⟨j2, hj2, e⟩ := Far.adj hc0 F hone hadj
            rcases e with e | e
            · rw [e] at hj2; exact hj2
            · exact absurd (List.mem_append_left _ ((hks other).mpr ⟨j2, by omega, hj2⟩)) hin
          refine ⟨more ++ [other], _, rfl, sm_chg (sm_chg s9 nm1 c11) npm1 c12, ?_, c12.2 _ _ pmr.symm (c11.2 _ _ mr.symm er9), by rw [c12.1, List.map_append]; rfl, ?_, ?_, ?_, ?_⟩
          · rw [c12.2 _ _ pmm.symm c11.1, ← List.append_assoc, ← nK_put hin]
          · rw [← List.append_assoc, List.nodup_append]
            exact ⟨nd9, by simp, fun x hx y hy e => hin (by rw [List.mem_singleton] at hy; rw [← hy, ← e]; exact hx)⟩
          · intro x hx
            rcases List.mem_append.mp hx with w | w
            · exact hm9 x w
            · rw [List.mem_singleton] at w; rw [w]; exact hfar
          · exact fun y hy x h2 h3 => List.mem_append_left _ (ha9 y hy x h2 h3)
          · intro x hx hf
            rw [ht2, List.mem_append] at hx
            rcases hx with hx | hx
            · exact List.mem_append_left _ (hb9 x hx hf)
            · exact List.mem_append_right _ hx
      · rintro σ H9 ⟨more, y8, rfl, s9, em9, er9, ep9, nd9, hm9, ha9, hb9⟩
        rw [List.length_map, List.take_of_length_le (Nat.le_refl _)] at hb9
        refine ⟨more, _, _, rfl, s9, em9, er9, ep9, nd9, hm9, fun y hy x h2 h3 => ?_⟩
        rw [ht, List.mem_append, List.mem_singleton] at hy
        rcases hy with hy | rfl
        · exact ha9 y hy x h2 h3
        · exact hb9 x ((g4 x).mpr h2) h3
    · rintro σ H7 ⟨more, y7, y8, rfl, s7, em7, er7, ep7, nd7, hm7, ha7⟩
      rw [List.length_map, List.take_of_length_le (Nat.le_refl _)] at ha7
      walk_at "rd"
      have hmore : ∀ x, x ∈ more ↔ Far lv c0 x (k + 1) := fun x => ⟨hm7 x, fun h => by
        obtain ⟨y, hy, a⟩ := Far.nearer hc0 h
        exact ha7 y ((hrow y).mpr hy) x a h⟩
      refine ⟨⟨k + 1, more, ks ++ more, pm, _, _, _, by rw [show ((k + 1 : Nat) : Int) - 1 = (k : Int) by omega], s7, em7, ep7, hmore, fun x => ?_, nd7, (List.nodup_append.mp nd7).2.1, .inr ⟨x0, hfar0⟩⟩, ?_⟩
      · rw [List.mem_append, hks, hmore]
        constructor
        · rintro (⟨j, hj, q⟩ | q)
          · exact ⟨j, by omega, q⟩
          · exact ⟨_, Nat.le_refl _, q⟩
        · rintro ⟨j, hj, q⟩
          by_cases w : j = k + 1
          · rw [w] at q; exact .inr q
          · exact .inl ⟨j, by omega, q⟩
      · show 2 * lv.length + 2 - ((k : Int) + 1).toNat < 2 * lv.length + 2 - ((k : Int) - 1 + 1).toNat
        omega
  · walk_at "rd"
    have hno : ∀ x, ¬ Far lv c0 x k := fun x h => by
      have := (hrow x).mpr h
      rw [z] at this; cases this
    have k0 : k ≠ 0 := fun w => hno n (by rw [w]; exact (far0 n).mpr rfl)
    rw [show ((k : Int) - 1) = ((k - 1 : Nat) : Int) by omega]
    refine h1 (k - 1) H5 ⟨c0, hc0, hk.resolve_left k0, fun x j h => ?_⟩ ((s1.trans s4).trans s5)
    by_cases w : j ≤ k - 1
    · exact w
    · obtain ⟨y, hy⟩ := far_down hc0 j h k (by omega)
      exact absurd hy (hno y)
def sp_middle (A : Ad) : Sp := fun vs H Q E => ∃ (d : Addr) (n : Int) (lv : List (Int × Option Int)), vs = [.ref d, .int n] ∧ H d = some (.dK (bK lv)) ∧ Forest lv ∧ n ∈ keysOf lv ∧
  ∀ (m : Int) (H' : Hp), MS lv n m → Same H H' → Q (.int m) H'
def t_middle (A : Ad) (E : XK) : TS := tSeq (tAsg (tVar 1) (gName 2)) (tSeq (tAsg (tCall (sp_reach A) [] E0 (tCons (tVar 0) (tCons (tVar 1) (tNil)))) (gName 3)) (tSeq (tFor (iList A.K (tCall (sp_tree_of A) [] E0 (tCons (tVar 0) (tCons (tVar 1) (tNil))))) (gName 4) (tSeq (tAsg (tCall (sp_reach A) [] E0 (tCons (tVar 0) (tCons (tVar 4) (tNil)))) (gName 5)) (tIfS (tOr (tTest (tOp (rLt) (tVar 5) (tVar 3))) (tAnd (tTest (tOp (rEqG A.K) (tVar 5) (tVar 3))) (tTest (tOp (rGt) (tVar 4) (tVar 2))))) (tSeq (tAsg (tVar 4) (gName 2)) (tAsg (tVar 5) (gName 3))) (tNext)))) (tRet (tVar 2))))
theorem p_middle (A : Ad) {vs : List V} {H : Hp} {Q : VK} {E : XK} (h : sp_middle A vs H Q E) : t_middle A E { nx := fun _ H2 => Q .non H2, rt := Q } (start ["bases", "number", "best", "least", "one", "far"] vs) H := by
  obtain ⟨d, n, lv, rfl, hR, F, hn, h1⟩ := h
  have F3 := F.len
  obtain ⟨c0, hc0⟩ := F.ch hn
  change t_middle A E _ [_, _, none, none, none, none] _
  unfold t_middle
  walk_at "rd"
  refine ⟨d, n, lv, rfl, hR, F, hn, fun r H1 hr s1 => ?_⟩
  walk_at "rd"
  refine ⟨d, n, lv, rfl, s1 _ _ hR, F, hn, fun c p H2 hc hcl s2 np e2 => ?_⟩
  walk_at "rd"
  refine for_go walk_list (fun i σ H3 => ∃ (b : Int) (r : Nat) (y4 y5 : Option V), σ = [some (.ref d), some (.int n), some (.int b), some (.int r), y4, y5] ∧ Same H2 H3 ∧ InTree lv n b ∧ RS lv b r ∧
      ∀ x ∈ c.take i, ∀ s, RS lv x s → r ≤ s ∧ (s = r → x ≤ b)) ⟨n, r, _, _, rfl, fun _ _ z => z, ⟨c0, c0, hc0, hc0, rfl⟩, hr, fun x hx => by simp at hx⟩ (fun i σ H3 hi ⟨_, _, _, _, _, s, _⟩ => .of (s _ _ e2)) ?_ ?_
  · rintro i x σ H3 H4 hi ⟨b, r, y4, y5, rfl, s3, hb, hrb, hall⟩ ⟨rfl, hx⟩
    rw [List.length_map] at hi
    rw [List.getElem?_map, List.getElem?_eq_getElem hi] at hx
    obtain rfl := Option.some.inj hx
    have hci : c[i] ∈ c := List.getElem_mem hi
    have ht := take_succ hi
    generalize c[i] = one at *
    have hin := (hc one).mp hci
    have hkey : one ∈ keysOf lv := by
      obtain ⟨_, d5, _, g2, _⟩ := hin
      obtain ⟨s, rfl⟩ := g2.head
      exact g2.keys one List.mem_cons_self
    walk_at "rd"
    refine ⟨d, one, lv, rfl, s3 _ _ (s2 _ _ (s1 _ _ hR)), F, hkey, fun r2 H5 hr2 s5 => ?_⟩
    walk_at "rd"
    have new : (r2 < r ∨ r2 = r ∧ b < one) → ∃ (b : Int) (r : Nat) (y4 y5 : Option V), [some (V.ref d), some (.int n), some (.int one), some (.int r2), some (.int one), some (.int r2)] = [some (.ref d), some (.int n), some (.int b), some (.int r), y4, y5] ∧ Same H2 H5 ∧ InTree lv n b ∧ RS lv b r ∧
      ∀ x ∈ c.take (i + 1), ∀ s, RS lv x s → r ≤ s ∧ (s = r → x ≤ b) := fun w => by
      refine ⟨one, r2, _, _, rfl, s3.trans s5, hin, hr2, fun x hx s hs => ?_⟩
      rw [ht, List.mem_append, List.mem_singleton] at hx
      rcases hx with hx | rfl
      · obtain ⟨g1, g2⟩ := hall x hx s hs
        rcases w with w | ⟨w1, w2⟩
        · exact ⟨by omega, fun z => by omega⟩
        · exact ⟨by omega, fun z => by have := g2 (by omega); omega⟩
      · have := hs.inj hr2
        exact ⟨by omega, fun _ => Int.le_refl _⟩
    have old : ¬ (r2 < r ∨ r2 = r ∧ b < one) → ∃ (b2 : Int) (r3 : Nat) (y4 y5 : Option V), [some (V.ref d), some (.int n), some (.int b), some (.int r), some (.int one), some (.int r2)] = [some (.ref d), some (.int n), some (.int b2), some (.int r3), y4, y5] ∧ Same H2 H5 ∧ InTree lv n b2 ∧ RS lv b2 r3 ∧
      ∀ x ∈ c.take (i + 1), ∀ s, RS lv x s → r3 ≤ s ∧ (s = r3 → x ≤ b2) := fun w => by
      refine ⟨b, r, _, _, rfl, s3.trans s5, hb, hrb, fun x hx s hs => ?_⟩
      rw [ht, List.mem_append, List.mem_singleton] at hx
      rcases hx with hx | rfl
      · exact hall x hx s hs
      · have := hs.inj hr2
        exact ⟨by omega, fun z => by omega⟩
    refine r_dec (fun w => ?_) fun w => ?_
    · walk_at "rd"
      exact new (.inl (by omega))
    · walk_at "rd"
      refine r_dec (fun w2 => ?_) fun w2 => ?_
      · walk_at "rd"
        refine r_dec (fun w3 => ?_) fun w3 => ?_
        · walk_at "rd"
          exact new (.inr ⟨by omega, w3⟩)
        · walk_at "rd"
          exact old (by omega)
      · walk_at "rd"
        exact old (by omega)
  · rintro σ H3 ⟨b, r, y4, y5, rfl, s3, hb, hrb, hall⟩
    rw [List.length_map, List.take_of_length_le (Nat.le_refl _)] at hall
    walk_at "rd"
    exact h1 b H3 ⟨hb, r, hrb, fun x s hx hs => hall x ((hc x).mpr hx) s hs⟩ ((s1.trans s2).trans s3)
def sp_l_cell_at (A : Ad) : Sp := fun vs H Q E => ∃ (a : Addr) (ns : List Int) (k : Int), vs = [.ref a, .int k] ∧ 0 ≤ k ∧ SqL A.K H a (ns.map V.int) ∧ ns.length ≤ 1000 ∧ Q (.int (cellAt ns k)) H
theorem u_cell_at {A : Ad} {a : Addr} {ns : List Int} {k : Int} {H : Hp} {Q : VK} {E : XK} (hk : 0 ≤ k) (hS : SqL A.K H a (ns.map V.int)) (hl : ns.length ≤ 63) (h : Q (.int (cellAt ns k)) H) : sp_l_cell_at A [.ref a, .int k] H Q E :=
  ⟨a, ns, k, rfl, hk, hS, by omega, h⟩
local macro_rules | `(tactic| walk_at "x1") => `(tactic| ((with_reducible apply u_cell_at); (first | decide | omega); (walk_at "hp"); assumption))
def t_l_cell_at (A : Ad) (E : XK) : TS := tSeq (tIfS (tTest (tOp (rLt) (tVar 1) (tCB (rLenG A.K) (tCons (tVar 0) (tNil))))) (tRet (tOp (rIx A.K) (tVar 0) (tVar 1))) (tNext)) (tRet (tC (.int 0)))
theorem p_l_cell_at (A : Ad) {vs : List V} {H : Hp} {Q : VK} {E : XK} (h : sp_l_cell_at A vs H Q E) : t_l_cell_at A E { nx := fun _ H2 => Q .non H2, rt := Q } (start ["_law_script", "_law_k"] vs) H := by
  obtain ⟨a, ns, k, rfl, hk, hS, hl, h1⟩ := h
  change t_l_cell_at A E _ [_, _] _
  unfold t_l_cell_at
  walk_at "rd"
  rw [List.length_map]
  refine r_dec (fun c => ?_) (fun c => ?_)
  · walk_at "rd"
    obtain ⟨j, rfl⟩ : ∃ j : Nat, k = j := ⟨k.toNat, by omega⟩
    have hj : j < ns.length := by omega
    refine r_ixL hS (v := .int (cellAt ns j)) (atI_nat ?_) h1
    rw [List.getElem?_map, List.getElem?_eq_getElem hj]
    unfold cellAt
    simp [List.getD, hj]
  · walk_at "rd"
    have e : cellAt ns k = 0 := by
      unfold cellAt
      simp [List.getD, List.getElem?_eq_none (show ns.length ≤ k.toNat by omega)]
    rw [e] at h1
    exact h1
def sp_l_whole (A : Ad) : Sp := fun vs H Q E => ∃ i, vs = [.int i] ∧ Q (.bl true) H
def t_l_whole (A : Ad) (E : XK) : TS := tRet (tAndV (tCB (rIsi A.K) (tCons (tVar 0) (tCons (tC (.ty "int")) (tNil)))) (tNotV (tCB (rIsi A.K) (tCons (tVar 0) (tCons (tC (.ty "bool")) (tNil))))))
theorem p_l_whole (A : Ad) {vs : List V} {H : Hp} {Q : VK} {E : XK} (h : sp_l_whole A vs H Q E) : t_l_whole A E { nx := fun _ H2 => Q .non H2, rt := Q } (start ["_law_found"] vs) H := by
  obtain ⟨i, rfl, h1⟩ := h
  change t_l_whole A E _ [_] _
  unfold t_l_whole
  walk_at "rd"
  exact h1
def sp_l_wood (A : Ad) : Sp := fun vs H Q E => ∃ (a : Addr) (ns : List Int), vs = [.ref a] ∧ SqL A.K H a (ns.map V.int) ∧ ns.length ≤ 63 ∧
  ∀ (d : Addr) (H' : Hp) (lv : List (Int × Option Int)) (rk : Int → Nat), Same H H' → H d = none → H' d = some (.dK (bK lv)) → (lv.map Prod.fst).Nodup → Wood lv rk → (∀ n, rk n ≤ 30) → 0 < lv.length → lv.length ≤ 30 → Q (.ref d) H'
def t_l_wood (A : Ad) (E : XK) : TS := tSeq (tAsg (tOp (rIx A.K) (tLst (tCons (tC (.int 0)) (tCons (tC (.int 0)) (tCons (tC (.int 0)) (tCons (tOp rPow (tC (.int 10)) (tC (.int 12))) (tNil)))))) (tOp rMod (tOp rDiv (tCall (sp_l_cell_at A) [] E0 (tCons (tVar 0) (tCons (tC (.int 1)) (tNil)))) (tC (.int 31))) (tC (.int 4)))) (gName 1)) (tSeq (tAsg (tOp rAdd3 (tC (.int 1)) (tOp rMod (tCall (sp_l_cell_at A) [] E0 (tCons (tVar 0) (tCons (tC (.int 0)) (tNil)))) (tC (.int 9)))) (gName 2)) (tCut (tIfS (tTest (tOp (rEqG A.K) (tOp rMod (tOp rDiv (tCall (sp_l_cell_at A) [] E0 (tCons (tVar 0) (tCons (tC (.int 0)) (tNil)))) (tC (.int 9))) (tC (.int 8))) (tC (.int 1)))) (tAsg (tOp rAdd3 (tVar 2) (tC (.int 12))) (gName 2)) (tNext)) (tCut (tIfS (tTest (tOp (rEqG A.K) (tOp rMod (tOp rDiv (tCall (sp_l_cell_at A) [] E0 (tCons (tVar 0) (tCons (tC (.int 0)) (tNil)))) (tC (.int 9))) (tC (.int 8))) (tC (.int 2)))) (tAsg (tOp rAdd3 (tVar 2) (tC (.int 21))) (gName 2)) (tNext)) (tSeq (tAsg (tOp (rIx A.K) (tLst (tCons (tC (.int 1)) (tCons (tC (.int 3)) (tNil)))) (tOp rMod (tOp rDiv (tCall (sp_l_cell_at A) [] E0 (tCons (tVar 0) (tCons (tC (.int 2)) (tNil)))) (tC (.int 2))) (tC (.int 2)))) (gName 3)) (tSeq (tAsg (tLc (iRng1 (tCons (tVar 2) (tNil))) (gName 5) (tYes) (tOp rAdd3 (tVar 1) (tOp rMul (tVar 3) (tOp rMod (tOp rAdd3 (tOp rMul (tC (.int 7)) (tVar 5)) (tCall (sp_l_cell_at A) [] E0 (tCons (tVar 0) (tCons (tC (.int 1)) (tNil))))) (tC (.int 31))))) [5]) (gName 4)) (tSeq (tAsg (tLst (tCons (tC .non) (tNil))) (gName 6)) (tSeq (tFor (iRng2 (tCons (tC (.int 1)) (tCons (tVar 2) (tNil)))) (gName 5) (tSeq (tAsg (tCall (sp_l_cell_at A) [] E0 (tCons (tVar 0) (tCons (tOp rAdd3 (tC (.int 3)) (tVar 5)) (tNil)))) (gName 7)) (tIfS (tTest (tOp (rEqG A.K) (tOp rMod (tVar 7) (tC (.int 5))) (tC (.int 0)))) (tDrop (tBM A.K "list" rAppend (tVar 6) (tCons (tC .non) (tNil)))) (tIfS (tTest (tOp (rLt) (tOp rMod (tVar 7) (tC (.int 5))) (tC (.int 3)))) (tDrop (tBM A.K "list" rAppend (tVar 6) (tCons (tOp (rIx A.K) (tVar 4) (tOp rSub (tVar 5) (tC (.int 1)))) (tNil)))) (tDrop (tBM A.K "list" rAppend (tVar 6) (tCons (tOp (rIx A.K) (tVar 4) (tOp rMod (tOp rDiv (tVar 7) (tC (.int 5))) (tVar 5))) (tNil)))))))) (tSeq (tAsg (tLc (iRng1 (tCons (tVar 2) (tNil))) (gName 5) (tYes) (tVar 5) [5]) (gName 8)) (tCut (tIfS (tTest (tOp (rEqG A.K) (tOp rMod (tCall (sp_l_cell_at A) [] E0 (tCons (tVar 0) (tCons (tC (.int 2)) (tNil)))) (tC (.int 2))) (tC (.int 1)))) (tDrop (tBM0 A.K "list" rReverse (tVar 8))) (tNext)) (tSeq (tAsg (tDNewK) (gName 9)) (tSeq (tFor (iList A.K (tVar 8)) (gName 5) (sDPut (tVar 9) (tOp (rIx A.K) (tVar 4) (tVar 5)) (tOp (rIx A.K) (tVar 6) (tVar 5)))) (tRet (tVar 9)))))))))))))
theorem p_l_wood (A : Ad) {vs : List V} {H : Hp} {Q : VK} {E : XK} (h : sp_l_wood A vs H Q E) : t_l_wood A E { nx := fun _ H2 => Q .non H2, rt := Q } (start ["_law_script", "_law_far", "_law_many", "_law_step", "_law_names", "_law_k", "_law_below", "_law_cell", "_law_order", "_law_wood_here"] vs) H := by
  obtain ⟨a, ns, rfl, hS, hl, h1⟩ := h
  change t_l_wood A E _ [_, none, none, none, none, none, none, none, none, none] _
  unfold t_l_wood
  walk_at "rd"
  intro p1 H1 np1 s1 e1
  walk_at "rd"
  obtain ⟨far, hfar⟩ : ∃ far : Int, atI [V.int 0, V.int 0, V.int 0, V.int (10 ^ (12 : Int).toNat)] (cellAt ns 1 / 31 % 4) = some (.int far) := by
    generalize ec : cellAt ns 1 / 31 % 4 = c
    have h : c = 0 ∨ c = 1 ∨ c = 2 ∨ c = 3 := by omega
    rcases h with rfl | rfl | rfl | rfl <;> exact ⟨_, rfl⟩
  refine r_ixL (.of e1) hfar ?_
  walk_at "rd"
  refine r_cut (fun σ' H' => ∃ m : Int, σ' = [some (.ref a), some (.int far), some (.int m), none, none, none, none, none, none, none] ∧ 1 ≤ m ∧ (m ≤ 9 ∨ m ≤ 21 ∧ ¬ cellAt ns 0 / 9 % 8 = 2) ∧ H' = H1) ?_ ?_
  · walk_at "rd"
    refine r_dec (fun c => ?_) (fun c => ?_)
    · walk_at "rd"
      exact ⟨_, rfl, by omega, by omega, rfl⟩
    · walk_at "rd"
      exact ⟨_, rfl, by omega, by omega, rfl⟩
  rintro σ' H' ⟨m0, rfl, m1, m2, rfl⟩
  walk_at "rd"
  refine r_cut (fun σ' H2 => ∃ m : Nat, σ' = [some (.ref a), some (.int far), some (.int m), none, none, none, none, none, none, none] ∧ 1 ≤ m ∧ m ≤ 30 ∧ H2 = H') ?_ ?_
  · walk_at "rd"
    refine r_dec (fun c => ?_) (fun c => ?_)
    · walk_at "rd"
      exact ⟨(m0 + 21).toNat, by rw [Int.toNat_of_nonneg (by omega)], by omega, by omega, rfl⟩
    · walk_at "rd"
      exact ⟨m0.toNat, by rw [Int.toNat_of_nonneg (by omega)], by omega, by omega, rfl⟩
  rintro σ' H1 ⟨m, rfl, m3, m4, rfl⟩
  walk_at "rd"
  intro p2 H2 np2 s2 e2
  walk_at "rd"
  obtain ⟨v, hv, hv2⟩ := menu2 (x := .int 1) (y := .int 3) (i := cellAt ns 2 / 2 % 2) (by omega)
  obtain ⟨st, rfl, hst⟩ : ∃ st : Int, v = .int st ∧ (st = 1 ∨ st = 3) := hv2.elim (fun e => ⟨1, e, .inl rfl⟩) fun e => ⟨3, e, .inr rfl⟩
  clear hv2
  refine r_ixL (.of e2) hv ?_
  walk_at "rd"
  have s02 : Same H H2 := s1.trans s2
  generalize eff : (fun k : Nat => far + st * ((7 * (k : Int) + cellAt ns 1) % 31)) = f
  have ef : ∀ k : Nat, far + st * ((7 * (k : Int) + cellAt ns 1) % 31) = f k := fun k => by rw [← eff]
  have inj : ∀ j k, j < 31 → k < 31 → f j = f k → j = k := fun j k hj hk e => by
    rw [← ef, ← ef] at e
    rcases hst with rfl | rfl <;> omega
  refine lc_go (walk_rng0 (n := (m : Int).toNat)) (by omega) (fun D i acc H3 => H2 D = none ∧ Same H2 H3 ∧ acc = (List.range i).map fun k => V.int (f k)) (fun D H3 hD s3 _ => ⟨hD, s3, rfl⟩) (fun _ _ _ _ _ _ => trivial) ?_ ?_
  · rintro D i x acc H3 H4 hi ha e ⟨hD, s3, rfl⟩ ⟨rfl, rfl⟩
    walk_at "rd"
    rw [ef]
    refine lc_end ha (by omega) e fun H5 c5 => ⟨hD, sm_chg s3 hD c5, ?_⟩
    rw [List.range_succ, List.map_append]
    rfl
  rintro D2 acc H3 ⟨nD2, s3, rfl⟩ eD2
  have s03 : Same H H3 := s02.trans s3
  walk_at "rd"
  intro p3 H4 np3 s4 e4
  walk_at "rd"
  have g2 : ∀ {X : Hp} {j : Nat}, X D2 = some (.lst ((List.range (m : Int).toNat).map fun k => V.int (f k))) → j < m → ∀ {Q : VK}, Q (.int (f j)) X → rIx A.K (.ref D2) (.int (j : Int)) X Q := fun {X j} e hj {Q} q =>
    r_ixL (.of e) (atI_nat (by rw [List.getElem?_map, List.getElem?_range (by omega)]; rfl)) q
  have nD23 : D2 ≠ p3 := ne_of_none eD2 np3
  refine for_go (walk_rng (lo := 1) (n := ((m : Int) - 1).toNat)) (fun i σ H5 => ∃ (y5 y7 : Option V) (bl : List (Option Int)), σ = [some (.ref a), some (.int far), some (.int m), some (.int st), some (.ref D2), y5, some (.ref p3), y7, none, none] ∧
      Same H3 H5 ∧ H5 p3 = some (.lst (bl.map obV)) ∧ bl.length = i + 1 ∧ ∀ k b, bl[k]? = some (some b) → ∃ j, j < k ∧ b = f j) ⟨none, none, [none], rfl, s4, e4, rfl, fun k b h => by cases k <;> simp at h⟩ (fun _ _ _ _ _ => trivial) ?_ ?_
  · rintro i x σ H5 H6 hi ⟨y5, y7, bl, rfl, s5, e5, hbl, low⟩ ⟨rfl, rfl⟩
    have hm : i + 1 < m := by omega
    have app : ∀ {o : Option Int} {H7 : Hp} {z : Option V}, (∀ b, o = some b → ∃ j, j < i + 1 ∧ b = f j) → Chg p3 (.lst (bl.map obV ++ [obV o])) H6 H7 → ∃ (y5 y7 : Option V) (bl : List (Option Int)), [some (.ref a), some (.int far), some (.int m), some (.int st), some (.ref D2), some (.int (1 + (i : Int))), some (.ref p3), z, none, none] = [some (.ref a), some (.int far), some (.int m), some (.int st), some (.ref D2), y5, some (.ref p3), y7, none, none] ∧
        Same H3 H7 ∧ H7 p3 = some (.lst (bl.map obV)) ∧ bl.length = i + 1 + 1 ∧ ∀ k b, bl[k]? = some (some b) → ∃ j, j < k ∧ b = f j := fun {o H7 z} ho c => by
      refine ⟨_, _, bl ++ [o], rfl, sm_chg s5 np3 c, by rw [c.1, List.map_append]; rfl, by simp [hbl], fun k b h => ?_⟩
      by_cases hk : k < bl.length
      · rw [List.getElem?_append_left hk] at h; exact low k b h
      · rw [List.getElem?_append_right (by omega)] at h
        have hk2 : k = bl.length := by
          have := (List.getElem?_eq_some_iff.mp h).1
          simp at this; omega
        subst hk2
        simp at h
        obtain ⟨j, hj, e⟩ := ho b h
        exact ⟨j, by omega, e⟩
    have hline : (bl.map obV).length < sizeLine := szl (by rw [List.length_map]; omega)
    have eD : H6 D2 = _ := s5 _ _ eD2
    walk_at "rd"
    generalize cellAt ns (3 + (1 + (i : Int))) = c
    walk_at "rd"
    refine r_dec (fun c1 => ?_) fun c1 => ?_
    · walk_at "rd"
      refine r_append e5 hline fun H7 c7 => ?_
      walk_at "rd"
      exact app (o := none) (fun b q => by cases q) c7
    walk_at "rd"
    refine r_dec (fun c2 => ?_) fun c2 => ?_
    · walk_at "rd"
      rw [show (1 + (i : Int) - 1) = ((i : Nat) : Int) by omega]
      refine g2 eD (by omega) ?_
      walk_at "rd"
      refine r_append e5 hline fun H7 c7 => ?_
      walk_at "rd"
      exact app (o := some (f i)) (fun b q => ⟨i, by omega, (Option.some.inj q).symm⟩) c7
    · walk_at "rd"
      obtain ⟨j, ej⟩ : ∃ j : Nat, c / 5 % (1 + (i : Int)) = j := ⟨(c / 5 % (1 + (i : Int))).toNat, by have := Int.emod_nonneg (c / 5) (show (1 + (i : Int)) ≠ 0 by omega); omega⟩
      have hj : j < i + 1 := by have := Int.emod_lt_of_pos (c / 5) (show 0 < 1 + (i : Int) by omega); omega
      rw [ej]
      refine g2 eD (by omega) ?_
      walk_at "rd"
      refine r_append e5 hline fun H7 c7 => ?_
      walk_at "rd"
      exact app (o := some (f j)) (fun b q => ⟨j, by omega, (Option.some.inj q).symm⟩) c7
  rintro σ H5 ⟨y5, y7, bl, rfl, s5, e5, hbl, low⟩
  have hbm : bl.length = m := by omega
  have s05 := s03.trans s5
  have eD5 := s5 _ _ eD2
  walk_at "rd"
  refine lc_go (walk_rng0 (n := (m : Int).toNat)) (by omega) (fun D i acc H6 => H5 D = none ∧ Same H5 H6 ∧ acc = (List.range i).map fun k : Nat => V.int k) (fun D H6 hD s6 _ => ⟨hD, s6, rfl⟩) (fun _ _ _ _ _ _ => trivial) ?_ ?_
  · rintro D i x acc H6 H7 hi ha e ⟨hD, s6, rfl⟩ ⟨rfl, rfl⟩
    walk_at "rd"
    refine lc_end ha (by omega) e fun H8 c8 => ⟨hD, sm_chg s6 hD c8, ?_⟩
    rw [List.range_succ, List.map_append]
    rfl
  rintro D8 acc H6 ⟨nD8, s6, rfl⟩ eD8
  walk_at "rd"
  refine r_cut (fun σ' H7 => ∃ os : List Nat, σ' = [some (.ref a), some (.int far), some (.int m), some (.int st), some (.ref D2), y5, some (.ref p3), y7, some (.ref D8), none] ∧ Same H5 H7 ∧ H7 D8 = some (.lst (os.map fun k : Nat => V.int k)) ∧ (∀ k, k ∈ os ↔ k < m) ∧ os.Nodup ∧ os.length = m) ?_ ?_
  · walk_at "rd"
    refine r_dec (fun c => ?_) fun c => ?_
    · walk_at "rd"
      refine r_rev eD8 fun H7 c7 => ?_
      walk_at "rd"
      refine ⟨(List.range m).reverse, rfl, sm_chg s6 nD8 c7, ?_, fun k => by simp, (List.pairwise_reverse.mpr (List.Pairwise.imp (fun h => Ne.symm h) List.nodup_range)), by simp⟩
      rw [c7.1, ← List.map_reverse]
      rfl
    · walk_at "rd"
      exact ⟨List.range m, rfl, s6, eD8, fun k => by simp, List.nodup_range, by simp⟩
  rintro σ' H7 ⟨os, rfl, s7, e7, ho, hnd, hlen⟩
  obtain ⟨w1, rk, w2, w3⟩ := wood_of (by omega) inj hbm low ho hnd
  walk_at "rd"
  intro p9 H9 np9 s9 e9
  walk_at "rd"
  refine for_go walk_list (fun i σ H10 => ∃ y5 : Option V, σ = [some (.ref a), some (.int far), some (.int m), some (.int st), some (.ref D2), y5, some (.ref p3), y7, some (.ref D8), some (.ref p9)] ∧
      Same H7 H10 ∧ H10 p9 = some (.dK (bK ((os.take i).map fun k => (f k, bl.getD k none))))) ⟨y5, rfl, s9, e9⟩ (fun i σ H10 hi ⟨_, _, s10, _⟩ => .of (s10 _ _ e7)) ?_ ?_
  · rintro i x σ H10 H11 hi ⟨z5, rfl, s10, e10⟩ ⟨rfl, hx⟩
    rw [List.length_map] at hi
    rw [List.getElem?_map, List.getElem?_eq_getElem hi] at hx
    obtain rfl := Option.some.inj hx
    have hk : os[i] < m := (ho _).mp (List.getElem_mem hi)
    walk_at "rd"
    have e5' := s10 _ _ (s7 _ _ e5)
    refine r_ixL (.of e5') (v := obV (bl.getD os[i] none)) (atI_nat ?_) ?_
    · rw [List.getElem?_map, List.getElem?_eq_getElem (by omega), List.getD_eq_getElem?_getD, List.getElem?_eq_getElem (by omega)]
      rfl
    walk_at "rd"
    refine g2 (s10 _ _ (s7 _ _ eD5)) hk ?_
    have ht : os.take (i + 1) = os.take i ++ [os[i]] := by rw [List.take_add_one, List.getElem?_eq_getElem hi]; rfl
    have hno : look ((os.take i).map fun k => (f k, bl.getD k none)) (f os[i]) = none := by
      refine look_none.mpr fun h => ?_
      have h3 : ((os.take (i + 1)).map f).Nodup := by
        have h2 := (w1.sublist (List.Sublist.map _ (List.Sublist.map _ (List.take_sublist (i + 1) os))))
        rw [List.map_map] at h2
        exact h2
      rw [ht, List.map_append, List.nodup_append] at h3
      rw [List.map_map] at h
      exact h3.2.2 _ h _ (by simp) rfl
    refine r_dputE e10 (szl (by rw [bK_len, List.length_map, List.length_take]; omega)) fun H12 c12 => ?_
    refine ⟨_, rfl, sm_chg s10 np9 c12, ?_⟩
    rw [c12.1, bK_put hno, ht, List.map_append]
    rfl
  rintro σ H10 ⟨z5, rfl, s10, e10⟩
  rw [List.length_map, List.take_of_length_le (Nat.le_refl _)] at e10
  walk_at "rd"
  exact h1 p9 H10 _ rk ((s05.trans s7).trans s10) ((s05.trans s7).free np9) e10 w1 w2 w3 (by rw [List.length_map]; omega) (by rw [List.length_map]; omega)
def sp_l_chain (A : Ad) : Sp := fun vs H Q E => ∃ (d : Addr) (n : Int) (lv : List (Int × Option Int)) (c : List Int), vs = [.ref d, .int n] ∧ Rd H d (.dK (bK lv)) ∧ Ch lv n c ∧ c.length ≤ 100000 ∧
  Nw H (.lst (c.map V.int)) Q
theorem u_l_chain {A : Ad} {d : Addr} {n : Int} {lv : List (Int × Option Int)} {c : List Int} {H : Hp} {Q : VK} {E : XK} (h1 : Rd H d (.dK (bK lv))) (h2 : Ch lv n c) (h3 : c.length ≤ 100000) (h : Nw H (.lst (c.map V.int)) Q) : sp_l_chain A [.ref d, .int n] H Q E := ⟨d, n, lv, c, rfl, h1, h2, h3, h⟩
def t_l_chain (A : Ad) (E : XK) : TS := tSeq (tAsg (tLst (tCons (tVar 1) (tNil))) (gName 2)) (tSeq (tWhile (tB (tNotN (tDGet (tVar 0) (tOp (rIx A.K) (tVar 2) (tUn rNeg (tC (.int 1))))))) (tDrop (tBM A.K "list" rAppend (tVar 2) (tCons (tDGet (tVar 0) (tOp (rIx A.K) (tVar 2) (tUn rNeg (tC (.int 1))))) (tNil))))) (tRet (tVar 2)))
theorem p_l_chain (A : Ad) {vs : List V} {H : Hp} {Q : VK} {E : XK} (h : sp_l_chain A vs H Q E) : t_l_chain A E { nx := fun _ H2 => Q .non H2, rt := Q } (start ["_law_wood_here", "_law_number", "_law_chain_here"] vs) H := by
  obtain ⟨d, n, lv, c, rfl, hR, hc, hl, h1⟩ := h
  change t_l_chain A E _ [_, _, none] _
  unfold t_l_chain
  walk_at "rd"
  intro p H1 np s1 e1
  walk_at "rd"
  refine r_while (fun σ H2 => ∃ (pre : List Int) (x : Int) (r : List Int), σ = [some (.ref d), some (.int n), some (.ref p)] ∧ Same H H2 ∧ H2 p = some (.lst (pre.map V.int ++ [.int x])) ∧ Ch lv x r ∧ c = pre ++ r)
    (fun σ H2 => match H2 p with
      | some (.lst xs) => c.length - xs.length
      | _ => 0) ⟨[], n, c, rfl, s1, e1, hc, rfl⟩ ?_
  rintro σ H2 ⟨pre, x, r, rfl, s2, e2, hx, ec⟩
  walk_at "rd"
  refine r_ixL (.of e2) (atI_last _ _) ?_
  cases hx with
  | whole ex =>
    refine r_dgetE (sm_rd s2 hR) (v := .non) (by rw [bK_val, ex]; rfl) ?_
    walk_at "rd"
    refine r_ndec (fun z => absurd rfl z) fun _ => ?_
    walk_at "rd"
    refine h1 p H2 np s2 ?_
    rw [e2, ec, List.map_append]
    rfl
  | @lean _ b r ex hb =>
    refine r_dgetE (sm_rd s2 hR) (v := .int b) (by rw [bK_val, ex]; rfl) ?_
    walk_at "rd"
    refine r_ndec (fun _ => ?_) fun z => V.noConfusion z
    refine wh_body ?_
    walk_at "rd"
    refine r_ixL (.of e2) (atI_last _ _) ?_
    refine r_dgetE (sm_rd s2 hR) (v := .int b) (by rw [bK_val, ex]; rfl) ?_
    walk_at "rd"
    have lc := congrArg List.length ec
    rw [List.length_append, List.length_cons] at lc
    refine r_append e2 (szl (by rw [List.length_append, List.length_map]; show pre.length + 1 < _; omega)) fun H3 c3 => ?_
    walk_at "rd"
    have e3 : H3 p = some (.lst ((pre ++ [x]).map V.int ++ [.int b])) := by rw [c3.1, List.map_append]; rfl
    refine ⟨⟨pre ++ [x], b, r, rfl, sm_chg s2 np c3, e3, hb, by rw [ec]; simp⟩, ?_⟩
    rw [e3, e2]
    have lb : 0 < r.length := by obtain ⟨q, rfl⟩ := hb.head; exact Nat.succ_pos _
    simp only [List.length_append, List.length_map, List.length_cons, List.length_nil]
    omega
def sp_l_between (A : Ad) : Sp := fun vs H Q E => ∃ (a b : Addr) (c d : List Int), vs = [.ref a, .ref b] ∧ H a = some (.lst (c.map V.int)) ∧ H b = some (.lst (d.map V.int)) ∧ c.length ≤ 1000 ∧ d.length ≤ 1000 ∧ (∃ x ∈ c, x ∈ d) ∧ Q (.int (btw c d)) H
theorem inV_ints (x : Int) (d : List Int) : inV (.int x) (d.map V.int) = decide (x ∈ d) := by
  unfold inV
  rw [List.any_map]
  induction d with
  | nil => rfl
  | cons a d ih =>
    rw [List.any_cons, ih]
    show ((a == x) || _) = _
    by_cases h : a = x
    · subst h; simp
    · have h2 : x ≠ a := fun z => h z.symm
      simp [h, h2]
theorem flat_ints (d : List Int) : (d.map V.int).all flatV = true := by
  rw [List.all_eq_true]
  intro x hx
  obtain ⟨i, _, rfl⟩ := List.mem_map.mp hx
  rfl
theorem btw_at {d : List Int} : ∀ (c : List Int) (i : Nat) (x : Int), c[i]? = some x → (∀ y ∈ c.take i, y ∉ d) → x ∈ d → btw c d = i + d.idxOf x
  | [], i, x, h, _, _ => by simp at h
  | a :: c, 0, x, h, _, hx => by
    cases h
    show (if a ∈ d then _ else _) = _
    rw [if_pos hx, Nat.zero_add]
  | a :: c, i + 1, x, h, hn, hx => by
    show (if a ∈ d then _ else btw c d + 1) = _
    rw [if_neg (hn a (by simp)), btw_at c i x h (fun y hy => hn y (by rw [List.take_succ_cons]; exact List.mem_cons_of_mem _ hy)) hx]
    omega
def t_l_between (A : Ad) (E : XK) : TS := tSeq (tFor (iRng1 (tCons (tCB (rLenG A.K) (tCons (tVar 0) (tNil))) (tNil))) (gName 2) (tIfS (tTest (tOp (rIn A.K false) (tOp (rIx A.K) (tVar 0) (tVar 2)) (tVar 1))) (tRet (tOp rAdd3 (tVar 2) (tBM A.K "list" (rIndex A.K) (tVar 1) (tCons (tOp (rIx A.K) (tVar 0) (tVar 2)) (tNil))))) (tNext))) (tRet (tUn rNeg (tC (.int 1))))
theorem p_l_between (A : Ad) {vs : List V} {H : Hp} {Q : VK} {E : XK} (h : sp_l_between A vs H Q E) : t_l_between A E { nx := fun _ H2 => Q .non H2, rt := Q } (start ["_law_one", "_law_other", "_law_k"] vs) H := by
  obtain ⟨a, b, c, d, rfl, ha, hb, lc, ld, hex, h1⟩ := h
  change t_l_between A E _ [_, _, none] _
  unfold t_l_between
  walk_at "rd"
  rw [List.length_map]
  walk_at "rd"
  refine for_go (walk_rng0 (n := (c.length : Int).toNat)) (fun i σ H2 => ∃ y : Option V, σ = [some (.ref a), some (.ref b), y] ∧ H2 = H ∧ ∀ x ∈ c.take i, x ∉ d) ⟨none, rfl, rfl, fun x hx => by simp at hx⟩ (fun _ _ _ _ _ => trivial) ?_ ?_
  · rintro i x σ H2 H3 hi ⟨y, rfl, rfl, hn⟩ ⟨rfl, rfl⟩
    have hi : i < c.length := by omega
    have hci : c[i]? = some c[i] := List.getElem?_eq_getElem hi
    have ht := take_succ hi
    generalize c[i] = one at *
    have hat : atI (c.map V.int) ((i : Nat) : Int) = some (.int one) := atI_nat (by rw [List.getElem?_map, hci]; rfl)
    walk_at "rd"
    refine r_ixL (.of ha) hat ?_
    walk_at "rd"
    refine ⟨b, _, rfl, .inl (.of hb), rfl, flat_ints d, ?_⟩
    rw [if_neg Bool.false_ne_true, inV_ints]
    walk_at "rd"
    refine r_dec (fun z => ?_) fun z => ?_
    · walk_at "rd"
      refine r_ixL (.of ha) hat ?_
      have il : d.idxOf one < d.length := List.idxOf_lt_length_iff.mpr z
      refine ⟨b, _, _, d.idxOf one, .int one, rfl, rfl, .of hb, rfl, flat_ints d, by rw [List.getElem?_map, List.getElem?_eq_getElem il, List.getElem_idxOf]; rfl, by show (one == one) = true; simp, fun m z' hm hz => ?_, ?_⟩
      · rw [List.getElem?_map, List.getElem?_eq_getElem (by omega)] at hz
        obtain rfl := Option.some.inj hz
        show (d[m] == one) = false
        have := List.not_of_lt_findIdx (p := (· == one)) (xs := d) hm
        simpa using this
      · walk_at "rd"
        rw [btw_at c i one hci hn z] at h1
        rw [show ((i : Int) + ((d.idxOf one : Nat) : Int)) = ((i + d.idxOf one : Nat) : Int) by omega]
        exact h1
    · walk_at "rd"
      refine ⟨_, rfl, rfl, fun x hx => ?_⟩
      rw [ht, List.mem_append, List.mem_singleton] at hx
      rcases hx with hx | rfl
      · exact hn x hx
      · exact z
  · rintro σ H2 ⟨y, rfl, rfl, hn⟩
    obtain ⟨x, hx, hd⟩ := hex
    exact absurd hd (hn x (by rw [List.take_of_length_le (by omega)]; exact hx))
def sp_l_law (A : Ad) : Sp := fun vs H Q E => ∃ (a : Addr) (ns : List Int), vs = [.ref a] ∧ SqL A.K H a (ns.map V.int) ∧ ns.length ≤ 63 ∧ ∀ H', Q (.bl true) H'
theorem end_law {A : Ad} {H : Hp} {Q : VK} {E : XK} (a : Addr) (ns : List Int) (hl : ns.length ≤ 63) (hS : SqL A.K H a (ns.map V.int)) (hq : ∀ H', Q (.bl true) H') : sp_l_law A [.ref a] H Q E := ⟨a, ns, rfl, hS, hl, hq⟩
def t_l_law (A : Ad) (E : XK) : TS := tSeq (tAsg (tCall (sp_l_wood A) [] E0 (tCons (tVar 0) (tNil))) (gName 1)) (tSeq (tAsg (tCB (rListG A.K) (tCons (tVar 1) (tNil))) (gName 2)) (tSeq (tAsg (tOp (rIx A.K) (tVar 2) (tOp rMod (tCall (sp_l_cell_at A) [] E0 (tCons (tVar 0) (tCons (tC (.int 3)) (tNil)))) (tCB (rLenG A.K) (tCons (tVar 2) (tNil))))) (gName 3)) (tSeq (tAsg (tDNewK) (gName 4)) (tSeq (tLock (tFor (iKeys (tVar 1)) (gName 5) (sDPut (tVar 4) (tVar 5) (tCall (sp_l_chain A) [] E0 (tCons (tVar 1) (tCons (tVar 5) (tNil))))))) (tSeq (tLock (tAsg (tLc (iKeys (tVar 1)) (gName 5) (tTest (tOp (rEqG A.K) (tOp (rIx A.K) (tDGet (tVar 4) (tVar 5)) (tUn rNeg (tC (.int 1)))) (tOp (rIx A.K) (tDGet (tVar 4) (tVar 3)) (tUn rNeg (tC (.int 1)))))) (tVar 5) [5]) (gName 6))) (tSeq (tAsg (tDNewK) (gName 7)) (tSeq (tFor (iList A.K (tVar 6)) (gName 5) (sDPut (tVar 7) (tVar 5) (tCB (rMax A.K) (tCons (tLc (iList A.K (tVar 6)) (gName 8) (tYes) (tCall (sp_l_between A) [] E0 (tCons (tDGet (tVar 4) (tVar 5)) (tCons (tDGet (tVar 4) (tVar 8)) (tNil)))) [8]) (tNil))))) (tSeq (tAsg (tCB (rMin A.K) (tCons (tLc (iList A.K (tVar 6)) (gName 5) (tYes) (tDGet (tVar 7) (tVar 5)) [5]) (tNil))) (gName 9)) (tSeq (tAsg (tCB (rDictD) (tCons (tVar 1) (tNil))) (gName 10)) (tSeq (tAsg (tCall (sp_reach A) [] E0 (tCons (tVar 10) (tCons (tVar 3) (tNil)))) (gName 11)) (tSeq (tAsg (tCall (sp_middle A) [] E0 (tCons (tVar 10) (tCons (tVar 3) (tNil)))) (gName 12)) (tSeq (tIfS (tOr (tTest (tOp (rNeG A.K) (tVar 10) (tVar 1))) (tOr (tNot (tB (tCall (sp_l_whole A) [] E0 (tCons (tVar 11) (tNil))))) (tNot (tB (tCall (sp_l_whole A) [] E0 (tCons (tVar 12) (tNil))))))) (tRet (tC (.bl false))) (tNext)) (tRet (tAndV (tOp (rEqG A.K) (tVar 11) (tDGet (tVar 7) (tVar 3))) (tOp (rEqG A.K) (tVar 12) (tCB (rMax A.K) (tCons (tLc (iList A.K (tVar 6)) (gName 5) (tTest (tOp (rEqG A.K) (tDGet (tVar 7) (tVar 5)) (tVar 9))) (tVar 5) [5]) (tNil))))))))))))))))))
theorem p_l_law (A : Ad) {vs : List V} {H : Hp} {Q : VK} {E : XK} (h : sp_l_law A vs H Q E) : t_l_law A E { nx := fun _ H2 => Q .non H2, rt := Q } (start ["_law_script", "_law_wood_here", "_law_names", "_law_number", "_law_chains", "_law_one", "_law_tree", "_law_far", "_law_other", "_law_least", "_law_handed", "_law_found", "_law_best"] vs) H := by
  obtain ⟨a, ns, rfl, hS, hl, h1⟩ := h
  change t_l_law A E _ [_, none, none, none, none, none, none, none, none, none, none, none, none] _
  unfold t_l_law
  walk_at "rd"
  refine ⟨a, ns, rfl, hS, hl, fun d H1 lv rk s1 nd e1 hnd hw hrk hpos hlen => ?_⟩
  have F : Forest lv := ⟨hnd, ⟨rk, hw⟩, by omega⟩
  have kl : (keysOf lv).length = lv.length := List.length_map _
  walk_at "rd"
  refine r_listD (.of e1) fun p H2 np s2 e2 => ?_
  rw [bK_list] at e2
  walk_at "rd"
  rw [List.length_map, List.length_map]
  walk_at "rd"
  obtain ⟨j, ej⟩ : ∃ j : Nat, cellAt ns 3 % (lv.length : Int) = j := ⟨(cellAt ns 3 % (lv.length : Int)).toNat, by have := Int.emod_nonneg (cellAt ns 3) (show (lv.length : Int) ≠ 0 by omega); omega⟩
  have hj : j < lv.length := by have := Int.emod_lt_of_pos (cellAt ns 3) (show 0 < (lv.length : Int) by omega); omega
  rw [ej]
  obtain ⟨⟨n, o⟩, hm⟩ : ∃ p, lv[j]? = some p := ⟨_, List.getElem?_eq_getElem hj⟩
  have hn : n ∈ keysOf lv := List.mem_map.mpr ⟨_, List.mem_of_getElem? hm, rfl⟩
  refine r_ixL (.of e2) (v := .int n) (atI_nat (by rw [List.getElem?_map, List.getElem?_map, hm]; rfl)) ?_
  clear hm ej hj
  walk_at "rd"
  obtain ⟨cf, hcf⟩ := Classical.axiomOfChoice (r := fun (n : Int) (c : List Int) => n ∈ keysOf lv → Ch lv n c) fun n => by
    by_cases h : n ∈ keysOf lv
    · obtain ⟨c, hc⟩ := F.ch h; exact ⟨c, fun _ => hc⟩
    · exact ⟨[], fun z => absurd z h⟩
  have hcl : ∀ n ∈ keysOf lv, (cf n).length ≤ 30 := fun n h => by have := (hcf n h).len; omega
  have ed2 := s2 _ _ e1
  intro ch H3 nch s3 e3
  walk_at "rd"
  have dch : ch ≠ d := fun z => by rw [z, ed2] at nch; cases nch
  refine r_lock (s3 _ _ ed2) fun od H4 c4 => ?_
  walk_at "rd"
  refine ⟨d, od, rfl, .inl ⟨_, c4.1, ?_⟩⟩
  refine for_go walk_keys (fun i σ H5 => ∃ (y5 : Option V) (ad : Int → Addr), σ = [some (.ref a), some (.ref d), some (.ref p), some (.int n), some (.ref ch), y5, none, none, none, none, none, none, none] ∧ H5 d = some (.frz od (.dK (bK lv))) ∧ Off d H2 H5 ∧
      H5 ch = some (.dK (nK (fun n => .ref (ad n)) ((keysOf lv).take i))) ∧ ∀ m ∈ (keysOf lv).take i, ad m ≠ d ∧ ad m ≠ ch ∧ H5 (ad m) = some (.lst ((cf m).map V.int)))
    ⟨none, fun _ => 0, rfl, c4.1, .of s3 c4, c4.2 _ _ dch e3, fun n h => by simp at h⟩ (fun i σ H3 hi ⟨_, _, _, h, _⟩ => h) ?_ ?_
  · rintro i x σ H5 H6 hi ⟨y5, ad, rfl, hd5, f5, e5, ha⟩ ⟨rfl, k, v, hk, rfl⟩
    rw [bK_len] at hi
    rw [bK_at hi] at hk
    cases hk
    have hkl : i < (keysOf lv).length := by omega
    have hki : (keysOf lv)[i] = lv[i].1 := List.getElem_map _
    have hkm : lv[i].1 ∈ keysOf lv := by rw [← hki]; exact List.getElem_mem _
    have ht := take_succ hkl
    rw [hki] at ht
    have hno : lv[i].1 ∉ (keysOf lv).take i := fun z => by
      have nd := F.nd.sublist (List.take_sublist (i + 1) (keysOf lv))
      rw [ht, List.nodup_append] at nd
      exact nd.2.2 _ z _ (by simp) rfl
    show gName 5 (.int lv[i].1) _ _ _
    generalize lv[i].1 = one at *
    walk_at "rd"
    refine u_l_chain (.inr ⟨od, hd5⟩) (hcf one hkm) (by have := hcl one hkm; omega) fun q H7 nq s7 e7 => ?_
    walk_at "rd"
    have qch : q ≠ ch := fun z => by rw [z, e5] at nq; cases nq
    have qd : q ≠ d := fun z => by rw [z, hd5] at nq; cases nq
    refine r_dputE (s7 _ _ e5) (szl (by rw [nK_len, List.length_take]; omega)) fun H8 c8 => ?_
    refine ⟨_, fu ad one q, rfl, c8.2 _ _ dch.symm (s7 _ _ hd5), (f5.sm s7).chg nch dch c8, ?_, fun m hm => ?_⟩
    · have z := c8.1
      have w : nK (fun n => .ref (fu ad one q n)) ((keysOf lv).take i) = nK (fun n => .ref (ad n)) ((keysOf lv).take i) := nK_congr fun m hm => by rw [fu_ne fun z : m = one => hno (by rw [← z]; exact hm)]
      rw [z, ht, ← nK_put hno, w, fu_eq]
    · rw [ht, List.mem_append, List.mem_singleton] at hm
      by_cases z : m = one
      · rw [z, fu_eq]
        exact ⟨qd, qch, c8.2 _ _ qch e7⟩
      · rw [fu_ne z]
        obtain ⟨g1, g2, g3⟩ := ha m (hm.resolve_right z)
        exact ⟨g1, g2, c8.2 _ _ g2 (s7 _ _ g3)⟩
  rintro σ H5 ⟨y5, ad, rfl, hd5, f5, e5, ha⟩
  rw [bK_len, List.take_of_length_le (by omega)] at e5 ha
  refine un hd5 fun H6 c6 => ?_
  have s26 := f5.back ed2 c6
  have e6 := c6.2 _ _ dch e5
  have ha6 : ∀ m ∈ keysOf lv, H6 (ad m) = some (.lst ((cf m).map V.int)) := fun m hm => c6.2 _ _ (ha m hm).1 (ha m hm).2.2
  have had : ∀ m ∈ keysOf lv, ad m ≠ d := fun m hm => (ha m hm).1
  clear e5 ha hd5
  walk_at "rd"
  refine r_lock c6.1 fun od2 H7 c7 => ?_
  walk_at "rd"
  refine ⟨d, od2, rfl, .inl ⟨_, c7.1, ?_⟩⟩
  have f7 : Off d H6 H7 := .of (fun _ _ z => z) c7
  obtain ⟨pr, epr⟩ : ∃ pr : Int → Bool, pr = fun x => decide (lastOf (cf x) = lastOf (cf n)) := ⟨_, rfl⟩
  refine lc_go walk_keys (by rw [bK_len]; omega) (fun D i acc H8 => H7 D = none ∧ Same H7 H8 ∧ acc = (((keysOf lv).take i).filter pr).map V.int) (fun D H8 hD s8 _ => ⟨hD, s8, by simp⟩) (fun D i acc H3 hi h => h.2.1 _ _ c7.1) ?_ ?_
  · rintro D i x acc H8 H9 hi hac e ⟨hD, s8, rfl⟩ ⟨rfl, k, v, hk, rfl⟩
    rw [bK_len] at hi
    rw [bK_at hi] at hk
    cases hk
    have hkl : i < (keysOf lv).length := by omega
    have hki : (keysOf lv)[i] = lv[i].1 := List.getElem_map _
    have hkm : lv[i].1 ∈ keysOf lv := by rw [← hki]; exact List.getElem_mem _
    have ht := take_succ hkl
    rw [hki] at ht
    show gName 5 (.int lv[i].1) _ _ _
    generalize lv[i].1 = one at *
    have e8 := s8 _ _ (c7.2 _ _ dch e6)
    have ga : ∀ m ∈ keysOf lv, H9 (ad m) = some (.lst ((cf m).map V.int)) := fun m hm => s8 _ _ (c7.2 _ _ (had m hm) (ha6 m hm))
    walk_at "rd"
    refine r_dgetE (.of e8) (nK_in hkm) ?_
    walk_at "rd"
    refine r_ixL (.of (ga one hkm)) (last_at (hcf one hkm)) ?_
    walk_at "rd"
    refine r_dgetE (.of e8) (nK_in hn) ?_
    walk_at "rd"
    refine r_ixL (.of (ga n hn)) (last_at (hcf n hn)) ?_
    walk_at "rd"
    refine r_dec (fun z => ?_) fun z => ?_
    · walk_at "rd"
      refine lc_end hac (by omega) e fun H10 c10 => ⟨hD, sm_chg s8 hD c10, ?_⟩
      have hp : pr one = true := by rw [epr]; exact decide_eq_true z
      rw [ht, List.filter_append, List.map_append, List.filter_cons, if_pos hp]
      rfl
    · refine lc_not hac e ⟨hD, s8, ?_⟩
      have hp : ¬ pr one = true := by rw [epr]; simpa using z
      rw [ht, List.filter_append, List.filter_cons, if_neg hp]
      simp
  rintro D acc H8 ⟨hD, s8, rfl⟩ e8
  rw [bK_len, List.take_of_length_le (by omega)] at e8
  obtain ⟨c, ec⟩ : ∃ c, c = (keysOf lv).filter pr := ⟨_, rfl⟩
  rw [← ec] at e8
  walk_at "rd"
  refine un (s8 _ _ c7.1) fun H9 c9 => ?_
  have s69 := (f7.sm s8).back c6.1 c9
  have e9 := c9.2 _ _ (f7.ne hD) e8
  have hc : ∀ x, x ∈ c ↔ x ∈ keysOf lv ∧ lastOf (cf x) = lastOf (cf n) := fun x => by rw [ec, List.mem_filter, epr]; simp
  have ndc : c.Nodup := by rw [ec]; exact F.nd.sublist List.filter_sublist
  have cl : c.length ≤ lv.length := by rw [ec, ← kl]; exact List.length_filter_le _ _
  have hnc : n ∈ c := (hc n).mpr ⟨hn, rfl⟩
  have hin : ∀ x, InTree lv n x ↔ x ∈ c := fun x => by
    rw [hc]
    constructor
    · rintro ⟨c1, c2, g1, g2, g3⟩
      have hx : x ∈ keysOf lv := by obtain ⟨r, rfl⟩ := g2.head; exact g2.keys x List.mem_cons_self
      exact ⟨hx, by rw [(hcf x hx).inj g2, (hcf n hn).inj g1]; exact g3⟩
    · rintro ⟨hx, e⟩
      exact ⟨_, _, hcf n hn, hcf x hx, e⟩
  clear f7 hD s8 e8 f5 ec epr
  have ch9 := s69 _ _ e6
  have ga9 : ∀ m ∈ keysOf lv, H9 (ad m) = some (.lst ((cf m).map V.int)) := fun m hm => s69 _ _ (ha6 m hm)
  have ed9 := c9.1
  walk_at "rd"
  intro fr H10 nfr s10 e10
  walk_at "rd"
  refine for_go walk_list (fun i σ H11 => ∃ (y5 y8 : Option V) (rf : Int → Nat), σ = [some (.ref a), some (.ref d), some (.ref p), some (.int n), some (.ref ch), y5, some (.ref D), some (.ref fr), y8, none, none, none, none] ∧ Same H9 H11 ∧
      H11 fr = some (.dK (nK (fun n => .int (rf n)) (c.take i))) ∧ ∀ x ∈ c.take i, RS lv x (rf x))
    ⟨_, none, fun _ => 0, rfl, s10, e10, fun x hx => by simp at hx⟩ (fun i σ H11 hi ⟨_, _, _, _, s, _⟩ => .of (s _ _ e9)) ?_ ?_
  · rintro i x σ H11 H12 hi ⟨y5, y8, rf, rfl, s11, e11, hrf⟩ ⟨rfl, hx⟩
    rw [List.length_map] at hi
    rw [List.getElem?_map, List.getElem?_eq_getElem hi] at hx
    obtain rfl := Option.some.inj hx
    have hci : c[i] ∈ c := List.getElem_mem hi
    have ht := take_succ hi
    have hno : c[i] ∉ c.take i := fun z => by
      have nd := ndc.sublist (List.take_sublist (i + 1) c)
      rw [ht, List.nodup_append] at nd
      exact nd.2.2 _ z _ (by simp) rfl
    generalize c[i] = one at *
    obtain ⟨hk1, hl1⟩ := (hc one).mp hci
    walk_at "rd"
    refine lc_go walk_list (by rw [List.length_map]; omega) (fun D2 j acc H13 => H12 D2 = none ∧ Same H12 H13 ∧ acc = ((c.take j).map fun y => ((btw (cf one) (cf y) : Nat) : Int)).map V.int) (fun D2 H13 hD s13 _ => ⟨hD, s13, by simp⟩) (fun D2 j acc H13 hj h => .of (h.2.1 _ _ (s11 _ _ e9))) ?_ ?_
    · rintro D2 j x acc H13 H14 hj hac e ⟨hD, s13, rfl⟩ ⟨rfl, hx⟩
      rw [List.length_map] at hj
      rw [List.getElem?_map, List.getElem?_eq_getElem hj] at hx
      obtain rfl := Option.some.inj hx
      have hcj : c[j] ∈ c := List.getElem_mem hj
      have ht2 := take_succ hj
      generalize c[j] = other at *
      obtain ⟨hk2, hl2⟩ := (hc other).mp hcj
      have s914 := s11.trans s13
      walk_at "rd"
      refine r_dgetE (.of (s914 _ _ ch9)) (nK_in hk1) ?_
      walk_at "rd"
      refine r_dgetE (.of (s914 _ _ ch9)) (nK_in hk2) ?_
      walk_at "rd"
      have b1 := hcl one hk1
      have b2 := hcl other hk2
      refine ⟨_, _, cf one, cf other, rfl, s914 _ _ (ga9 one hk1), s914 _ _ (ga9 other hk2), by omega, by omega, ⟨lastOf (cf one), (hcf one hk1).last.1, by rw [hl1, ← hl2]; exact (hcf other hk2).last.1⟩, ?_⟩
      refine lc_end hac (by omega) e fun H15 c15 => ⟨hD, sm_chg s13 hD c15, ?_⟩
      rw [ht2, List.map_append, List.map_append]
      rfl
    rintro D2 acc H13 ⟨hD, s13, rfl⟩ e13
    rw [List.length_map, List.take_of_length_le (Nat.le_refl _)] at e13
    walk_at "rd"
    refine ⟨D2, _, rfl, .of e13, by rw [List.length_map]; exact List.length_pos_of_mem hnc, fun mx hmx hall => ?_⟩
    walk_at "rd"
    obtain ⟨y, hy, rfl⟩ := List.mem_map.mp hmx
    have hrs : RS lv one (btw (cf one) (cf y)) := by
      obtain ⟨hky, hly⟩ := (hc y).mp hy
      refine ⟨cf one, hcf one hk1, ⟨y, cf y, hcf y hky, by rw [hly, hl1], btw_comm (hcf y hky) (hcf one hk1) (by rw [hly, hl1])⟩, ?_⟩
      rintro z k ⟨cz, g1, g2, rfl⟩
      have hkz : z ∈ keysOf lv := by obtain ⟨r, rfl⟩ := g1.head; exact g1.keys z List.mem_cons_self
      have ez := g1.inj (hcf z hkz)
      subst ez
      have hz : z ∈ c := (hc z).mpr ⟨hkz, by rw [g2, hl1]⟩
      have := hall _ (List.mem_map.mpr ⟨z, hz, rfl⟩)
      rw [btw_comm g1 (hcf one hk1) g2]
      omega
    have s913 := s11.trans s13
    refine r_dputE (s13 _ _ e11) (szl (by rw [nK_len, List.length_take]; omega)) fun H14 c14 => ?_
    refine ⟨_, _, fu rf one (btw (cf one) (cf y)), rfl, sm_chg s913 nfr c14, ?_, fun x hx => ?_⟩
    · have w : nK (fun n => V.int ((fu rf one (btw (cf one) (cf y)) n : Nat) : Int)) (c.take i) = nK (fun n => V.int ((rf n : Nat) : Int)) (c.take i) := nK_congr fun m hm => by rw [fu_ne fun z : m = one => hno (by rw [← z]; exact hm)]
      rw [c14.1, ht, ← nK_put hno, w, fu_eq]
    · rw [ht, List.mem_append, List.mem_singleton] at hx
      by_cases z : x = one
      · rw [z, fu_eq]; exact hrs
      · rw [fu_ne z]; exact hrf x (hx.resolve_right z)
  rintro σ H11 ⟨y5, y8, rf, rfl, s11, e11, hrf⟩
  rw [List.length_map, List.take_of_length_le (Nat.le_refl _)] at e11 hrf
  walk_at "rd"
  refine lc_go walk_list (by rw [List.length_map]; omega) (fun D2 j acc H13 => H11 D2 = none ∧ Same H11 H13 ∧ acc = ((c.take j).map fun y => ((rf y : Nat) : Int)).map V.int) (fun D2 H13 hD s13 _ => ⟨hD, s13, by simp⟩) (fun D2 j acc H13 hj h => .of (h.2.1 _ _ (s11 _ _ e9))) ?_ ?_
  · rintro D2 j x acc H13 H14 hj hac e ⟨hD, s13, rfl⟩ ⟨rfl, hx⟩
    rw [List.length_map] at hj
    rw [List.getElem?_map, List.getElem?_eq_getElem hj] at hx
    obtain rfl := Option.some.inj hx
    have hcj : c[j] ∈ c := List.getElem_mem hj
    have ht2 := take_succ hj
    generalize c[j] = other at *
    walk_at "rd"
    refine r_dgetE (.of (s13 _ _ e11)) (nK_in hcj) ?_
    refine lc_end hac (by omega) e fun H15 c15 => ⟨hD, sm_chg s13 hD c15, ?_⟩
    rw [ht2, List.map_append, List.map_append]
    rfl
  rintro D2 acc H13 ⟨hD2, s13, rfl⟩ e13
  rw [List.length_map, List.take_of_length_le (Nat.le_refl _)] at e13
  walk_at "rd"
  refine ⟨D2, _, rfl, .of e13, by rw [List.length_map]; exact List.length_pos_of_mem hnc, fun least hmem hall => ?_⟩
  obtain ⟨xl, hxl, rfl⟩ := List.mem_map.mp hmem
  walk_at "rd"
  have ed13 := s13 _ _ (s11 _ _ ed9)
  refine r_dictD (.of ed13) fun hd H14 nhd s14 e14 => ?_
  walk_at "rd"
  refine ⟨hd, n, lv, rfl, e14, F, hn, fun r H15 hr s15 => ?_⟩
  walk_at "rd"
  refine ⟨hd, n, lv, rfl, s15 _ _ e14, F, hn, fun mm H16 hmm s16 => ?_⟩
  walk_at "rd"
  have s1116 := s13.trans (s14.trans (s15.trans s16))
  refine r_neB (s16 _ _ (s15 _ _ e14)) (s1116 _ _ (s11 _ _ ed9)) hnd ?_
  walk_at "rd"
  refine ⟨_, rfl, ?_⟩
  walk_at "rd"
  refine ⟨_, rfl, ?_⟩
  walk_at "rd"
  refine r_dgetE (.of (s1116 _ _ e11)) (nK_in hnc) ?_
  have er := hr.inj (hrf n hnc)
  walk_at "rd"
  rw [decide_eq_true (show ((r : Nat) : Int) = ((rf n : Nat) : Int) by rw [er])]
  walk_at "rd"
  refine lc_go walk_list (by rw [List.length_map]; omega) (fun D2 j acc H17 => H16 D2 = none ∧ Same H16 H17 ∧ acc = ((c.take j).filter fun y => decide (rf y = rf xl)).map V.int) (fun D2 H13 hD s13 _ => ⟨hD, s13, by simp⟩) (fun D2 j acc H13 hj h => .of (h.2.1 _ _ (s1116 _ _ (s11 _ _ e9)))) ?_ ?_
  · rintro D2 j x acc H17 H18 hj hac e ⟨hD, s17, rfl⟩ ⟨rfl, hx⟩
    rw [List.length_map] at hj
    rw [List.getElem?_map, List.getElem?_eq_getElem hj] at hx
    obtain rfl := Option.some.inj hx
    have hcj : c[j] ∈ c := List.getElem_mem hj
    have ht2 := take_succ hj
    generalize c[j] = other at *
    walk_at "rd"
    refine r_dgetE (.of (s17 _ _ (s1116 _ _ e11))) (nK_in hcj) ?_
    walk_at "rd"
    refine r_dec (fun z => ?_) fun z => ?_
    · walk_at "rd"
      refine lc_end hac (by omega) e fun H15 c15 => ⟨hD, sm_chg s17 hD c15, ?_⟩
      rw [ht2, List.filter_append, List.map_append, List.filter_cons, if_pos (decide_eq_true (by omega))]
      rfl
    · refine lc_not hac e ⟨hD, s17, ?_⟩
      rw [ht2, List.filter_append, List.filter_cons, if_neg (by simp; omega)]
      simp
  rintro D3 acc H17 ⟨hD3, s17, rfl⟩ e17
  rw [List.length_map, List.take_of_length_le (Nat.le_refl _)] at e17
  obtain ⟨g1, rm, g2, g3⟩ := hmm
  have hmc := (hin mm).mp g1
  have em : rf mm = rf xl := by
    have q1 := g2.inj (hrf mm hmc)
    have q2 := (g3 xl _ ((hin xl).mpr hxl) (hrf xl hxl)).1
    have q3 := hall _ (List.mem_map.mpr ⟨mm, hmc, rfl⟩)
    omega
  have hmf : mm ∈ c.filter fun y => decide (rf y = rf xl) := List.mem_filter.mpr ⟨hmc, decide_eq_true em⟩
  walk_at "rd"
  refine ⟨D3, _, rfl, .of e17, List.length_pos_of_mem hmf, fun mx hmx hall2 => ?_⟩
  walk_at "rd"
  have q1 := hall2 mm hmf
  obtain ⟨q2, q3⟩ := List.mem_filter.mp hmx
  have q4 := (g3 mx _ ((hin mx).mpr q2) (hrf mx q2)).2 (by rw [of_decide_eq_true q3, ← em]; exact (g2.inj (hrf mm hmc)).symm)
  rw [decide_eq_true (show mm = mx by omega)]
  exact h1 _
/-! ### the row: where each def stands, its derivation -/
def topS (i : Nat) : Stmt := PySem.Challenge.pw_packdelta_k05_reach_and_middle.main.body.getD i (.Pass ⟨0, 0, 0, 0⟩)
abbrev s_chain_of : Stmt := topS 1
abbrev n_chain_of : List Str := ["bases", "number", "chain"]
abbrev a_chain_of : List Str := ["bases", "number"]
theorem sc_chain_of : FnScope n_chain_of a_chain_of (defScope s_chain_of) := ⟨rfl, rfl, rfl, by decide +kernel, rfl, by decide +kernel, by decide +kernel⟩
abbrev s_tree_of : Stmt := topS 2
abbrev n_tree_of : List Str := ["bases", "number", "whole", "one"]
abbrev a_tree_of : List Str := ["bases", "number"]
theorem sc_tree_of : FnScope n_tree_of a_tree_of (defScope s_tree_of) := ⟨rfl, rfl, rfl, by decide +kernel, rfl, by decide +kernel, by decide +kernel⟩
abbrev s_sides : Stmt := topS 3
abbrev n_sides : List Str := ["bases", "found", "one"]
abbrev a_sides : List Str := ["bases"]
theorem sc_sides : FnScope n_sides a_sides (defScope s_sides) := ⟨rfl, rfl, rfl, by decide +kernel, rfl, by decide +kernel, by decide +kernel⟩
abbrev s_reach : Stmt := topS 4
abbrev n_reach : List Str := ["bases", "number", "near", "met", "row", "far", "more", "one", "other"]
abbrev a_reach : List Str := ["bases", "number"]
theorem sc_reach : FnScope n_reach a_reach (defScope s_reach) := ⟨rfl, rfl, rfl, by decide +kernel, rfl, by decide +kernel, by decide +kernel⟩
abbrev s_middle : Stmt := topS 5
abbrev n_middle : List Str := ["bases", "number", "best", "least", "one", "far"]
abbrev a_middle : List Str := ["bases", "number"]
theorem sc_middle : FnScope n_middle a_middle (defScope s_middle) := ⟨rfl, rfl, rfl, by decide +kernel, rfl, by decide +kernel, by decide +kernel⟩
abbrev s_l_cell_at : Stmt := topS 7
abbrev n_l_cell_at : List Str := ["_law_script", "_law_k"]
abbrev a_l_cell_at : List Str := ["_law_script", "_law_k"]
theorem sc_l_cell_at : FnScope n_l_cell_at a_l_cell_at (defScope s_l_cell_at) := ⟨rfl, rfl, rfl, by decide +kernel, rfl, by decide +kernel, by decide +kernel⟩
abbrev s_l_whole : Stmt := topS 8
abbrev n_l_whole : List Str := ["_law_found"]
abbrev a_l_whole : List Str := ["_law_found"]
theorem sc_l_whole : FnScope n_l_whole a_l_whole (defScope s_l_whole) := ⟨rfl, rfl, rfl, by decide +kernel, rfl, by decide +kernel, by decide +kernel⟩
abbrev s_l_wood : Stmt := topS 9
abbrev n_l_wood : List Str := ["_law_script", "_law_far", "_law_many", "_law_step", "_law_names", "_law_k", "_law_below", "_law_cell", "_law_order", "_law_wood_here"]
abbrev a_l_wood : List Str := ["_law_script"]
theorem sc_l_wood : FnScope n_l_wood a_l_wood (defScope s_l_wood) := ⟨rfl, rfl, rfl, by decide +kernel, rfl, by decide +kernel, by decide +kernel⟩
abbrev s_l_chain : Stmt := topS 10
abbrev n_l_chain : List Str := ["_law_wood_here", "_law_number", "_law_chain_here"]
abbrev a_l_chain : List Str := ["_law_wood_here", "_law_number"]
theorem sc_l_chain : FnScope n_l_chain a_l_chain (defScope s_l_chain) := ⟨rfl, rfl, rfl, by decide +kernel, rfl, by decide +kernel, by decide +kernel⟩
abbrev s_l_between : Stmt := topS 11
abbrev n_l_between : List Str := ["_law_one", "_law_other", "_law_k"]
abbrev a_l_between : List Str := ["_law_one", "_law_other"]
theorem sc_l_between : FnScope n_l_between a_l_between (defScope s_l_between) := ⟨rfl, rfl, rfl, by decide +kernel, rfl, by decide +kernel, by decide +kernel⟩
abbrev s_l_law : Stmt := topS 12
abbrev n_l_law : List Str := ["_law_script", "_law_wood_here", "_law_names", "_law_number", "_law_chains", "_law_one", "_law_tree", "_law_far", "_law_other", "_law_least", "_law_handed", "_law_found", "_law_best"]
abbrev a_l_law : List Str := ["_law_script"]
theorem sc_l_law : FnScope n_l_law a_l_law (defScope s_l_law) := ⟨rfl, rfl, rfl, by decide +kernel, rfl, by decide +kernel, by decide +kernel⟩
structure TF (A : Ad) (mg : Str → Option Value) : Prop where
  bool_ : mg "bool" = none
  dict_ : mg "dict" = none
  int_ : mg "int" = none
  isinstance_ : mg "isinstance" = none
  len_ : mg "len" = none
  list_ : mg "list" = none
  max_ : mg "max" = none
  min_ : mg "min" = none
  range_ : mg "range" = none
section
variable {P : Program} {w : World} {A : Ad} {mg : Str → Option Value} {base : Heap}
theorem d_chain_of (T : TF A mg)  {f : Addr} {fd : FuncData} (F : FunD A.K "chain_of" "chain_of" (defArgs s_chain_of) (defBody s_chain_of) (defScope s_chain_of) [] [] f fd) : FnOk P w A.K mg base (L2.CX P w) 1 f fd a_chain_of (sp_chain_of A) := by
  refine F.ok (k := 0) sc_chain_of (fun vs H Q E h => ?_) (fun cdv A2 outer s H vs Q E hr h => ⟨t_chain_of A E, ?_, p_chain_of A  h⟩)
  · unfold sp_chain_of at h
    (repeat (obtain ⟨_, h⟩ := h)); subst_vars; rfl
  · exact pss_cons (ps_set (i := 2) sc_chain_of.nd rfl (Or.inl rfl) (pe_lst (pa_cons (pv 1) (pa_nil)))) (pss_cons (ps_while (passes_of rfl) (pt_cmp (pc_notN (pe_dget (hu_of hr) (pv 0) (pe_ix ix_seq (pv 2) (pe_un un_neg (pe_int)) (fun _ _ => rfl)) (fun _ _ => rfl)))) (pss_one (ps_expr (pe_bm PySem.F.plainAttrs_list PySem.F.slot_list_append PySem.F.type_list_append mt_append (pv 2) (pa_cons (pe_dget (hu_of hr) (pv 0) (pe_ix ix_seq (pv 2) (pe_un un_neg (pe_int)) (fun _ _ => rfl)) (fun _ _ => rfl)) (pa_nil)))))) (pss_one (ps_ret (pv 2))))
theorem d_tree_of (T : TF A mg)  {f : Addr} {fd : FuncData} (F : FunD A.K "tree_of" "tree_of" (defArgs s_tree_of) (defBody s_tree_of) (defScope s_tree_of) [] [] f fd) {f_chain_of : Addr} {fd_chain_of : FuncData} (G_chain_of : FnAt P w A.K mg base "chain_of" 1 a_chain_of (sp_chain_of A) f_chain_of fd_chain_of) : FnOk P w A.K mg base (L2.CX P w) 2 f fd a_tree_of (sp_tree_of A) := by
  refine F.ok (k := 1) sc_tree_of (fun vs H Q E h => ?_) (fun cdv A2 outer s H vs Q E hr h => ⟨t_tree_of A E, ?_, p_tree_of A  h⟩)
  · unfold sp_tree_of at h
    (repeat (obtain ⟨_, h⟩ := h)); subst_vars; rfl
  · have hr_1 := hr.mono (show 1 ≤ 1 by decide)
    exact pss_cons (ps_set (i := 2) sc_tree_of.nd rfl (Or.inr rfl) (pe_ix ix_seq (pe_call G_chain_of.ok hr_1 (by rfl) G_chain_of.mg G_chain_of.kp G_chain_of.b .nil (passL) (pa_cons (pv 0) (pa_cons (pv 1) (pa_nil)))) (pe_un un_neg (pe_int)) (fun _ _ => rfl))) (pss_one (ps_ret (pe_lock (pe_lc (own := [("one", 3)]) (g := gName 3) (tt := tTest (tOp (rEqG A.K) (tOp (rIx A.K) (tCall (sp_chain_of A) [] E0 (tCons (tVar 0) (tCons (tVar 3) (tNil)))) (tUn rNeg (tC (.int 1)))) (tVar 2))) rfl sc_tree_of.nd (pi_keys (pv 0)) (blkOk_by (own := [("one", 3)]) (N := n_tree_of) (sc := defScope s_tree_of) (by decide +kernel)) (fun _ _ _ _ _ => pg_name (i := 3) sc_tree_of.nd rfl (Or.inl rfl)) (fun _ _ _ _ _ => pts_one (pt_cmpR (op_eqG hr.units) (pe_ix ix_seq (pe_call G_chain_of.ok hr_1 (by rfl) G_chain_of.mg G_chain_of.kp G_chain_of.b .nil (passL) (pa_cons (pv 0) (pa_cons (pv 3) (pa_nil)))) (pe_un un_neg (pe_int)) (fun _ _ => rfl)) (pv 2) (nomark _))) (fun _ _ _ _ _ => pv 3)))))
theorem d_sides (T : TF A mg)  {f : Addr} {fd : FuncData} (F : FunD A.K "sides" "sides" (defArgs s_sides) (defBody s_sides) (defScope s_sides) [] [] f fd) : FnOk P w A.K mg base (L2.CX P w) 1 f fd a_sides (sp_sides A) := by
  refine F.ok (k := 0) sc_sides (fun vs H Q E h => ?_) (fun cdv A2 outer s H vs Q E hr h => ⟨t_sides A E, ?_, p_sides A  h⟩)
  · unfold sp_sides at h
    (repeat (obtain ⟨_, h⟩ := h)); subst_vars; rfl
  · exact pss_cons (ps_set (i := 1) sc_sides.nd rfl (Or.inl rfl) (pe_dnewK)) (pss_cons (ps_lock (ps_for (passes_of rfl) rfl (pi_keys (pv 0)) (pg_name (i := 2) sc_sides.nd rfl (Or.inl rfl)) (pss_one (ps_dput (hu_of hr) (pv 1) (pv 2) (pe_lst (pa_nil)) rfl)))) (pss_cons (ps_lock (ps_for (passes_of rfl) rfl (pi_keys (pv 0)) (pg_name (i := 2) sc_sides.nd rfl (Or.inl rfl)) (pss_one (ps_if (pt_cmp (pc_notN (pe_dget (hu_of hr) (pv 0) (pv 2) (fun _ _ => rfl)))) (pss_cons (ps_expr (pe_bm PySem.F.plainAttrs_list PySem.F.slot_list_append PySem.F.type_list_append mt_append (pe_dget (hu_of hr) (pv 1) (pv 2) (fun _ _ => rfl)) (pa_cons (pe_dget (hu_of hr) (pv 0) (pv 2) (fun _ _ => rfl)) (pa_nil)))) (pss_one (ps_expr (pe_bm PySem.F.plainAttrs_list PySem.F.slot_list_append PySem.F.type_list_append mt_append (pe_dget (hu_of hr) (pv 1) (pe_dget (hu_of hr) (pv 0) (pv 2) (fun _ _ => rfl)) (fun _ _ => rfl)) (pa_cons (pv 2) (pa_nil)))))) (pss_nil))))) (pss_one (ps_ret (pv 1)))))
theorem d_reach (T : TF A mg)  {f : Addr} {fd : FuncData} (F : FunD A.K "reach" "reach" (defArgs s_reach) (defBody s_reach) (defScope s_reach) [] [] f fd) {f_sides : Addr} {fd_sides : FuncData} (G_sides : FnAt P w A.K mg base "sides" 1 a_sides (sp_sides A) f_sides fd_sides) : FnOk P w A.K mg base (L2.CX P w) 2 f fd a_reach (sp_reach A) := by
  refine F.ok (k := 1) sc_reach (fun vs H Q E h => ?_) (fun cdv A2 outer s H vs Q E hr h => ⟨t_reach A E, ?_, p_reach A  h⟩)
  · unfold sp_reach at h
    (repeat (obtain ⟨_, h⟩ := h)); subst_vars; rfl
  · have hr_1 := hr.mono (show 1 ≤ 1 by decide)
    exact pss_cons (ps_set (i := 2) sc_reach.nd rfl (Or.inl rfl) (pe_call G_sides.ok hr_1 (by rfl) G_sides.mg G_sides.kp G_sides.b .nil (passL) (pa_cons (pv 0) (pa_nil)))) (pss_cons (ps_set (i := 3) sc_reach.nd rfl (Or.inl rfl) (pe_disp (pps_cons (pv 1) (pe_bl) (pps_nil)) (by rfl) (by rfl) (fun z => by cases z) (by decide))) (pss_cons (ps_set (i := 4) sc_reach.nd rfl (Or.inl rfl) (pe_lst (pa_cons (pv 1) (pa_nil)))) (pss_cons (ps_set (i := 5) sc_reach.nd rfl (Or.inl rfl) (pe_un un_neg (pe_int))) (pss_cons (ps_while (passes_of rfl) (pt_cmpR (op_neG hr.units) (pv 4) (pe_lst (pa_nil)) (nomark _)) (pss_cons (ps_set (i := 5) sc_reach.nd rfl (Or.inl rfl) (pe_op op_add3 (pv 5) (pe_int))) (pss_cons (ps_set (i := 6) sc_reach.nd rfl (Or.inl rfl) (pe_lst (pa_nil))) (pss_cons (ps_for (passes_of rfl) rfl (pi_list (pv 4)) (pg_name (i := 7) sc_reach.nd rfl (Or.inl rfl)) (pss_one (ps_for (passes_of rfl) rfl (pi_list (pe_dget (hu_of hr) (pv 2) (pv 7) (fun _ _ => rfl))) (pg_name (i := 8) sc_reach.nd rfl (Or.inl rfl)) (pss_one (ps_if (pt_cmp (pc_dnotin (hu_of hr) (pv 8) (pv 3))) (pss_cons (ps_dput (hu_of hr) (pv 3) (pv 8) (pe_bl) rfl) (pss_one (ps_expr (pe_bm PySem.F.plainAttrs_list PySem.F.slot_list_append PySem.F.type_list_append mt_append (pv 6) (pa_cons (pv 8) (pa_nil)))))) (pss_nil)))))) (pss_one (ps_set (i := 4) sc_reach.nd rfl (Or.inl rfl) (pv 6))))))) (pss_one (ps_ret (pv 5)))))))
theorem d_middle (T : TF A mg)  {f : Addr} {fd : FuncData} (F : FunD A.K "middle" "middle" (defArgs s_middle) (defBody s_middle) (defScope s_middle) [] [] f fd) {f_reach : Addr} {fd_reach : FuncData} (G_reach : FnAt P w A.K mg base "reach" 2 a_reach (sp_reach A) f_reach fd_reach) {f_tree_of : Addr} {fd_tree_of : FuncData} (G_tree_of : FnAt P w A.K mg base "tree_of" 2 a_tree_of (sp_tree_of A) f_tree_of fd_tree_of) : FnOk P w A.K mg base (L2.CX P w) 3 f fd a_middle (sp_middle A) := by
  refine F.ok (k := 2) sc_middle (fun vs H Q E h => ?_) (fun cdv A2 outer s H vs Q E hr h => ⟨t_middle A E, ?_, p_middle A  h⟩)
  · unfold sp_middle at h
    (repeat (obtain ⟨_, h⟩ := h)); subst_vars; rfl
  · have hr_2 := hr.mono (show 2 ≤ 2 by decide)
    exact pss_cons (ps_set (i := 2) sc_middle.nd rfl (Or.inl rfl) (pv 1)) (pss_cons (ps_set (i := 3) sc_middle.nd rfl (Or.inl rfl) (pe_call G_reach.ok hr_2 (by rfl) G_reach.mg G_reach.kp G_reach.b .nil (passL) (pa_cons (pv 0) (pa_cons (pv 1) (pa_nil))))) (pss_cons (ps_for (passes_of rfl) rfl (pi_list (pe_call G_tree_of.ok hr_2 (by rfl) G_tree_of.mg G_tree_of.kp G_tree_of.b .nil (passL) (pa_cons (pv 0) (pa_cons (pv 1) (pa_nil))))) (pg_name (i := 4) sc_middle.nd rfl (Or.inl rfl)) (pss_cons (ps_set (i := 5) sc_middle.nd rfl (Or.inl rfl) (pe_call G_reach.ok hr_2 (by rfl) G_reach.mg G_reach.kp G_reach.b .nil (passL) (pa_cons (pv 0) (pa_cons (pv 4) (pa_nil))))) (pss_one (ps_if (PW.pt (pw_or (pt_cmpR op_lt (pv 5) (pv 3) (nomark _)) (pw_or1 (PW.pt (pw_and (pt_cmpR (op_eqG hr.units) (pv 5) (pv 3) (nomark _)) (pw_and1 (pt_cmpR op_gt (pv 4) (pv 2) (nomark _)))))))) (pss_cons (ps_set (i := 2) sc_middle.nd rfl (Or.inl rfl) (pv 4)) (pss_one (ps_set (i := 3) sc_middle.nd rfl (Or.inl rfl) (pv 5)))) (pss_nil))))) (pss_one (ps_ret (pv 2)))))
theorem d_l_cell_at (T : TF A mg)  {f : Addr} {fd : FuncData} (F : FunD A.K "_law_cell_at" "_law_cell_at" (defArgs s_l_cell_at) (defBody s_l_cell_at) (defScope s_l_cell_at) [] [] f fd) : FnOk P w A.K mg base (L2.CX P w) 1 f fd a_l_cell_at (sp_l_cell_at A) := by
  refine F.ok (k := 0) sc_l_cell_at (fun vs H Q E h => ?_) (fun cdv A2 outer s H vs Q E hr h => ⟨t_l_cell_at A E, ?_, p_l_cell_at A  h⟩)
  · unfold sp_l_cell_at at h
    (repeat (obtain ⟨_, h⟩ := h)); subst_vars; rfl
  · exact pss_cons (ps_if (pt_cmpR op_lt (pv 1) (pe_callB call_lenG (by rfl) T.len_ (by decide +kernel) (pa_cons (pv 0) (pa_nil))) (nomark _)) (pss_one (ps_ret (pe_ix ix_seq (pv 0) (pv 1) (fun _ _ => rfl)))) (pss_nil)) (pss_one (ps_ret (pe_int)))
theorem d_l_whole (T : TF A mg)  {f : Addr} {fd : FuncData} (F : FunD A.K "_law_whole" "_law_whole" (defArgs s_l_whole) (defBody s_l_whole) (defScope s_l_whole) [] [] f fd) : FnOk P w A.K mg base (L2.CX P w) 1 f fd a_l_whole (sp_l_whole A) := by
  refine F.ok (k := 0) sc_l_whole (fun vs H Q E h => ?_) (fun cdv A2 outer s H vs Q E hr h => ⟨t_l_whole A E, ?_, p_l_whole A  h⟩)
  · unfold sp_l_whole at h
    (repeat (obtain ⟨_, h⟩ := h)); subst_vars; rfl
  · exact pss_one (ps_ret (pe_and (pe_callB call_isi (by rfl) T.isinstance_ (by decide +kernel) (pa_cons (pv 0) (pa_cons (pe_bltn (by rfl) T.int_ (by decide +kernel) rfl) (pa_nil)))) (pe_one (pe_not (pe_callB call_isi (by rfl) T.isinstance_ (by decide +kernel) (pa_cons (pv 0) (pa_cons (pe_bltn (by rfl) T.bool_ (by decide +kernel) rfl) (pa_nil))))))))
theorem d_l_wood (T : TF A mg)  {f : Addr} {fd : FuncData} (F : FunD A.K "_law_wood" "_law_wood" (defArgs s_l_wood) (defBody s_l_wood) (defScope s_l_wood) [] [] f fd) {f_l_cell_at : Addr} {fd_l_cell_at : FuncData} (G_l_cell_at : FnAt P w A.K mg base "_law_cell_at" 1 a_l_cell_at (sp_l_cell_at A) f_l_cell_at fd_l_cell_at) : FnOk P w A.K mg base (L2.CX P w) 2 f fd a_l_wood (sp_l_wood A) := by
  refine F.ok (k := 1) sc_l_wood (fun vs H Q E h => ?_) (fun cdv A2 outer s H vs Q E hr h => ⟨t_l_wood A E, ?_, p_l_wood A  h⟩)
  · unfold sp_l_wood at h
    (repeat (obtain ⟨_, h⟩ := h)); subst_vars; rfl
  · have hr_1 := hr.mono (show 1 ≤ 1 by decide)
    exact pss_cons (ps_set (i := 1) sc_l_wood.nd rfl (Or.inr rfl) (pe_ix ix_seq (pe_lst (pa_cons (pe_int) (pa_cons (pe_int) (pa_cons (pe_int) (pa_cons (pe_op op_pow (pe_int) (pe_int)) (pa_nil)))))) (pe_op op_mod (pe_op op_fdiv (pe_call G_l_cell_at.ok hr_1 (by rfl) G_l_cell_at.mg G_l_cell_at.kp G_l_cell_at.b .nil (passL) (pa_cons (pv 0) (pa_cons (pe_int) (pa_nil)))) (pe_int)) (pe_int)) (fun _ _ => rfl))) (pss_cons (ps_set (i := 2) sc_l_wood.nd rfl (Or.inl rfl) (pe_op op_add3 (pe_int) (pe_op op_mod (pe_call G_l_cell_at.ok hr_1 (by rfl) G_l_cell_at.mg G_l_cell_at.kp G_l_cell_at.b .nil (passL) (pa_cons (pv 0) (pa_cons (pe_int) (pa_nil)))) (pe_int)))) (pss_cut (ps_if (pt_cmpR (op_eqG hr.units) (pe_op op_mod (pe_op op_fdiv (pe_call G_l_cell_at.ok hr_1 (by rfl) G_l_cell_at.mg G_l_cell_at.kp G_l_cell_at.b .nil (passL) (pa_cons (pv 0) (pa_cons (pe_int) (pa_nil)))) (pe_int)) (pe_int)) (pe_int) (nomark _)) (pss_one (ps_set (i := 2) sc_l_wood.nd rfl (Or.inl rfl) (pe_op op_add3 (pv 2) (pe_int)))) (pss_nil)) (pss_cut (ps_if (pt_cmpR (op_eqG hr.units) (pe_op op_mod (pe_op op_fdiv (pe_call G_l_cell_at.ok hr_1 (by rfl) G_l_cell_at.mg G_l_cell_at.kp G_l_cell_at.b .nil (passL) (pa_cons (pv 0) (pa_cons (pe_int) (pa_nil)))) (pe_int)) (pe_int)) (pe_int) (nomark _)) (pss_one (ps_set (i := 2) sc_l_wood.nd rfl (Or.inl rfl) (pe_op op_add3 (pv 2) (pe_int)))) (pss_nil)) (pss_cons (ps_set (i := 3) sc_l_wood.nd rfl (Or.inr rfl) (pe_ix ix_seq (pe_lst (pa_cons (pe_int) (pa_cons (pe_int) (pa_nil)))) (pe_op op_mod (pe_op op_fdiv (pe_call G_l_cell_at.ok hr_1 (by rfl) G_l_cell_at.mg G_l_cell_at.kp G_l_cell_at.b .nil (passL) (pa_cons (pv 0) (pa_cons (pe_int) (pa_nil)))) (pe_int)) (pe_int)) (fun _ _ => rfl))) (pss_cons (ps_setLc (i := 4) (own := [("_law_k", 5)]) (g := gName 5) (tt := tYes) rfl sc_l_wood.nd rfl rfl (sw_true rfl rfl rfl (by decide +kernel)) (pi_range1 rfl T.range_ (pa_cons (pv 2) (pa_nil))) (blkOk_by (own := [("_law_k", 5)]) (N := n_l_wood) (sc := defScope s_l_wood) (by decide +kernel)) (fun _ _ _ _ _ => pg_name (i := 5) sc_l_wood.nd rfl (Or.inl rfl)) (fun _ _ _ _ _ => pts_nil) (fun _ _ _ _ _ => pe_op op_add3 (pv 1) (pe_op op_mul (pv 3) (pe_op op_mod (pe_op op_add3 (pe_op op_mul (pe_int) (pv 5)) (pe_call G_l_cell_at.ok hr_1 (by rfl) G_l_cell_at.mg G_l_cell_at.kp G_l_cell_at.b .nil (passL) (pa_cons (pv 0) (pa_cons (pe_int) (pa_nil))))) (pe_int))))) (pss_cons (ps_set (i := 6) sc_l_wood.nd rfl (Or.inl rfl) (pe_lst (pa_cons (pe_non) (pa_nil)))) (pss_cons (ps_for (passes_of rfl) rfl (pi_range2 rfl T.range_ (pa_cons (pe_int) (pa_cons (pv 2) (pa_nil)))) (pg_name (i := 5) sc_l_wood.nd rfl (Or.inl rfl)) (pss_cons (ps_set (i := 7) sc_l_wood.nd rfl (Or.inl rfl) (pe_call G_l_cell_at.ok hr_1 (by rfl) G_l_cell_at.mg G_l_cell_at.kp G_l_cell_at.b .nil (passL) (pa_cons (pv 0) (pa_cons (pe_op op_add3 (pe_int) (pv 5)) (pa_nil))))) (pss_one (ps_if (pt_cmpR (op_eqG hr.units) (pe_op op_mod (pv 7) (pe_int)) (pe_int) (nomark _)) (pss_one (ps_expr (pe_bm PySem.F.plainAttrs_list PySem.F.slot_list_append PySem.F.type_list_append mt_append (pv 6) (pa_cons (pe_non) (pa_nil))))) (pss_one (ps_if (pt_cmpR op_lt (pe_op op_mod (pv 7) (pe_int)) (pe_int) (nomark _)) (pss_one (ps_expr (pe_bm PySem.F.plainAttrs_list PySem.F.slot_list_append PySem.F.type_list_append mt_append (pv 6) (pa_cons (pe_ix ix_seq (pv 4) (pe_op op_sub (pv 5) (pe_int)) (fun _ _ => rfl)) (pa_nil))))) (pss_one (ps_expr (pe_bm PySem.F.plainAttrs_list PySem.F.slot_list_append PySem.F.type_list_append mt_append (pv 6) (pa_cons (pe_ix ix_seq (pv 4) (pe_op op_mod (pe_op op_fdiv (pv 7) (pe_int)) (pv 5)) (fun _ _ => rfl)) (pa_nil))))))))))) (pss_cons (ps_setLc (i := 8) (own := [("_law_k", 5)]) (g := gName 5) (tt := tYes) rfl sc_l_wood.nd rfl rfl (sw_true rfl rfl rfl (by decide +kernel)) (pi_range1 rfl T.range_ (pa_cons (pv 2) (pa_nil))) (blkOk_by (own := [("_law_k", 5)]) (N := n_l_wood) (sc := defScope s_l_wood) (by decide +kernel)) (fun _ _ _ _ _ => pg_name (i := 5) sc_l_wood.nd rfl (Or.inl rfl)) (fun _ _ _ _ _ => pts_nil) (fun _ _ _ _ _ => pv 5)) (pss_cut (ps_if (pt_cmpR (op_eqG hr.units) (pe_op op_mod (pe_call G_l_cell_at.ok hr_1 (by rfl) G_l_cell_at.mg G_l_cell_at.kp G_l_cell_at.b .nil (passL) (pa_cons (pv 0) (pa_cons (pe_int) (pa_nil)))) (pe_int)) (pe_int) (nomark _)) (pss_one (ps_expr (pe_bm0 PySem.F.plainAttrs_list PySem.F.slot_list_reverse PySem.F.type_list_reverse mt_reverse (pv 8)))) (pss_nil)) (pss_cons (ps_set (i := 9) sc_l_wood.nd rfl (Or.inl rfl) (pe_dnewK)) (pss_cons (ps_for (passes_of rfl) rfl (pi_list (pv 8)) (pg_name (i := 5) sc_l_wood.nd rfl (Or.inl rfl)) (pss_one (ps_dput (hu_of hr) (pv 9) (pe_ix ix_seq (pv 4) (pv 5) (fun _ _ => rfl)) (pe_ix ix_seq (pv 6) (pv 5) (fun _ _ => rfl)) rfl))) (pss_one (ps_ret (pv 9))))))))))))))
theorem d_l_chain (T : TF A mg)  {f : Addr} {fd : FuncData} (F : FunD A.K "_law_chain" "_law_chain" (defArgs s_l_chain) (defBody s_l_chain) (defScope s_l_chain) [] [] f fd) : FnOk P w A.K mg base (L2.CX P w) 1 f fd a_l_chain (sp_l_chain A) := by
  refine F.ok (k := 0) sc_l_chain (fun vs H Q E h => ?_) (fun cdv A2 outer s H vs Q E hr h => ⟨t_l_chain A E, ?_, p_l_chain A  h⟩)
  · unfold sp_l_chain at h
    (repeat (obtain ⟨_, h⟩ := h)); subst_vars; rfl
  · exact pss_cons (ps_set (i := 2) sc_l_chain.nd rfl (Or.inl rfl) (pe_lst (pa_cons (pv 1) (pa_nil)))) (pss_cons (ps_while (passes_of rfl) (pt_cmp (pc_notN (pe_dget (hu_of hr) (pv 0) (pe_ix ix_seq (pv 2) (pe_un un_neg (pe_int)) (fun _ _ => rfl)) (fun _ _ => rfl)))) (pss_one (ps_expr (pe_bm PySem.F.plainAttrs_list PySem.F.slot_list_append PySem.F.type_list_append mt_append (pv 2) (pa_cons (pe_dget (hu_of hr) (pv 0) (pe_ix ix_seq (pv 2) (pe_un un_neg (pe_int)) (fun _ _ => rfl)) (fun _ _ => rfl)) (pa_nil)))))) (pss_one (ps_ret (pv 2))))
theorem d_l_between (T : TF A mg)  {f : Addr} {fd : FuncData} (F : FunD A.K "_law_between" "_law_between" (defArgs s_l_between) (defBody s_l_between) (defScope s_l_between) [] [] f fd) : FnOk P w A.K mg base (L2.CX P w) 1 f fd a_l_between (sp_l_between A) := by
  refine F.ok (k := 0) sc_l_between (fun vs H Q E h => ?_) (fun cdv A2 outer s H vs Q E hr h => ⟨t_l_between A E, ?_, p_l_between A  h⟩)
  · unfold sp_l_between at h
    (repeat (obtain ⟨_, h⟩ := h)); subst_vars; rfl
  · exact pss_cons (ps_for (passes_of rfl) rfl (pi_range1 rfl T.range_ (pa_cons (pe_callB call_lenG (by rfl) T.len_ (by decide +kernel) (pa_cons (pv 0) (pa_nil))) (pa_nil))) (pg_name (i := 2) sc_l_between.nd rfl (Or.inl rfl)) (pss_one (ps_if (pt_cmpR op_in_seq (pe_ix ix_seq (pv 0) (pv 2) (fun _ _ => rfl)) (pv 1) (by rfl)) (pss_one (ps_ret (pe_op op_add3 (pv 2) (pe_bm PySem.F.plainAttrs_list PySem.F.slot_list_index PySem.F.type_list_index mt_index (pv 1) (pa_cons (pe_ix ix_seq (pv 0) (pv 2) (fun _ _ => rfl)) (pa_nil)))))) (pss_nil)))) (pss_one (ps_ret (pe_un un_neg (pe_int))))
theorem d_l_law (T : TF A mg)  {f : Addr} {fd : FuncData} (F : FunD A.K "law" "law" (defArgs s_l_law) (defBody s_l_law) (defScope s_l_law) [] [] f fd) {f_l_wood : Addr} {fd_l_wood : FuncData} (G_l_wood : FnAt P w A.K mg base "_law_wood" 2 a_l_wood (sp_l_wood A) f_l_wood fd_l_wood) {f_reach : Addr} {fd_reach : FuncData} (G_reach : FnAt P w A.K mg base "reach" 2 a_reach (sp_reach A) f_reach fd_reach) {f_middle : Addr} {fd_middle : FuncData} (G_middle : FnAt P w A.K mg base "middle" 3 a_middle (sp_middle A) f_middle fd_middle) {f_l_chain : Addr} {fd_l_chain : FuncData} (G_l_chain : FnAt P w A.K mg base "_law_chain" 1 a_l_chain (sp_l_chain A) f_l_chain fd_l_chain) {f_l_cell_at : Addr} {fd_l_cell_at : FuncData} (G_l_cell_at : FnAt P w A.K mg base "_law_cell_at" 1 a_l_cell_at (sp_l_cell_at A) f_l_cell_at fd_l_cell_at) {f_l_whole : Addr} {fd_l_whole : FuncData} (G_l_whole : FnAt P w A.K mg base "_law_whole" 1 a_l_whole (sp_l_whole A) f_l_whole fd_l_whole) {f_l_between : Addr} {fd_l_between : FuncData} (G_l_between : FnAt P w A.K mg base "_law_between" 1 a_l_between (sp_l_between A) f_l_between fd_l_between) : FnOk P w A.K mg base CX0 4 f fd a_l_law (sp_l_law A) := by
  refine F.ok (k := 3) sc_l_law (fun vs H Q E h => ?_) (fun cdv A2 outer s H vs Q E hr h => ⟨t_l_law A E, ?_, p_l_law A  h⟩)
  · unfold sp_l_law at h
    (repeat (obtain ⟨_, h⟩ := h)); subst_vars; rfl
  · have hr_1 := hr.mono (show 1 ≤ 3 by decide)
    have hr_2 := hr.mono (show 2 ≤ 3 by decide)
    have hr_3 := hr.mono (show 3 ≤ 3 by decide)
    exact pss_cons (ps_set (i := 1) sc_l_law.nd rfl (Or.inl rfl) (pe_call G_l_wood.ok hr_2 (by rfl) G_l_wood.mg G_l_wood.kp G_l_wood.b .nil (passL) (pa_cons (pv 0) (pa_nil)))) (pss_cons (ps_set (i := 2) sc_l_law.nd rfl (Or.inl rfl) (pe_callTy (call_listG rfl) (by rfl) T.list_ (by decide +kernel) (pa_cons (pv 1) (pa_nil)))) (pss_cons (ps_set (i := 3) sc_l_law.nd rfl (Or.inr rfl) (pe_ix ix_seq (pv 2) (pe_op op_mod (pe_call G_l_cell_at.ok hr_1 (by rfl) G_l_cell_at.mg G_l_cell_at.kp G_l_cell_at.b .nil (passL) (pa_cons (pv 0) (pa_cons (pe_int) (pa_nil)))) (pe_callB call_lenG (by rfl) T.len_ (by decide +kernel) (pa_cons (pv 2) (pa_nil)))) (fun _ _ => rfl))) (pss_cons (ps_set (i := 4) sc_l_law.nd rfl (Or.inr rfl) (pe_dnewK)) (pss_cons (ps_lock (ps_for (passes_of rfl) rfl (pi_keys (pv 1)) (pg_name (i := 5) sc_l_law.nd rfl (Or.inr rfl)) (pss_one (ps_dput (hu_of hr) (pv 4) (pv 5) (pe_call G_l_chain.ok hr_1 (by rfl) G_l_chain.mg G_l_chain.kp G_l_chain.b .nil (passL) (pa_cons (pv 1) (pa_cons (pv 5) (pa_nil)))) rfl)))) (pss_cons (ps_lock (ps_setLc (i := 6) (own := [("_law_one", 5)]) (g := gName 5) (tt := tTest (tOp (rEqG A.K) (tOp (rIx A.K) (tDGet (tVar 4) (tVar 5)) (tUn rNeg (tC (.int 1)))) (tOp (rIx A.K) (tDGet (tVar 4) (tVar 3)) (tUn rNeg (tC (.int 1)))))) rfl sc_l_law.nd rfl rfl (sw_true rfl rfl rfl (by decide +kernel)) (pi_keys (pv 1)) (blkOk_by (own := [("_law_one", 5)]) (N := n_l_law) (sc := defScope s_l_law) (by decide +kernel)) (fun _ _ _ _ _ => pg_name (i := 5) sc_l_law.nd rfl (Or.inl rfl)) (fun _ _ _ _ _ => pts_one (pt_cmpR (op_eqG hr.units) (pe_ix ix_seq (pe_dget (hu_of hr) (pv 4) (pv 5) (fun _ _ => rfl)) (pe_un un_neg (pe_int)) (fun _ _ => rfl)) (pe_ix ix_seq (pe_dget (hu_of hr) (pv 4) (pv 3) (fun _ _ => rfl)) (pe_un un_neg (pe_int)) (fun _ _ => rfl)) (nomark _))) (fun _ _ _ _ _ => pv 5))) (pss_cons (ps_set (i := 7) sc_l_law.nd rfl (Or.inr rfl) (pe_dnewK)) (pss_cons (ps_for (passes_of rfl) rfl (pi_list (pv 6)) (pg_name (i := 5) sc_l_law.nd rfl (Or.inr rfl)) (pss_one (ps_dput (hu_of hr) (pv 7) (pv 5) (pe_callB (cr_max rfl) (by rfl) T.max_ (by decide +kernel) (pa_cons (pe_lc (own := [("_law_other", 8)]) (g := gName 8) (tt := tYes) rfl sc_l_law.nd (pi_list (pv 6)) (blkOk_by (own := [("_law_other", 8)]) (N := n_l_law) (sc := defScope s_l_law) (by decide +kernel)) (fun _ _ _ _ _ => pg_name (i := 8) sc_l_law.nd rfl (Or.inl rfl)) (fun _ _ _ _ _ => pts_nil) (fun _ _ _ _ _ => pe_call G_l_between.ok hr_1 (by rfl) G_l_between.mg G_l_between.kp G_l_between.b .nil (passL) (pa_cons (pe_dget (hu_of hr) (pv 4) (pv 5) (fun _ _ => rfl)) (pa_cons (pe_dget (hu_of hr) (pv 4) (pv 8) (fun _ _ => rfl)) (pa_nil))))) (pa_nil))) rfl))) (pss_cons (ps_set (i := 9) sc_l_law.nd rfl (Or.inr rfl) (pe_callB (cr_min rfl) (by rfl) T.min_ (by decide +kernel) (pa_cons (pe_lc (own := [("_law_one", 5)]) (g := gName 5) (tt := tYes) rfl sc_l_law.nd (pi_list (pv 6)) (blkOk_by (own := [("_law_one", 5)]) (N := n_l_law) (sc := defScope s_l_law) (by decide +kernel)) (fun _ _ _ _ _ => pg_name (i := 5) sc_l_law.nd rfl (Or.inl rfl)) (fun _ _ _ _ _ => pts_nil) (fun _ _ _ _ _ => pe_dget (hu_of hr) (pv 7) (pv 5) (fun _ _ => rfl))) (pa_nil)))) (pss_cons (ps_set (i := 10) sc_l_law.nd rfl (Or.inl rfl) (pe_callTy call_dictD (by rfl) T.dict_ (by decide +kernel) (pa_cons (pv 1) (pa_nil)))) (pss_cons (ps_set (i := 11) sc_l_law.nd rfl (Or.inl rfl) (pe_call G_reach.ok hr_2 (by rfl) G_reach.mg G_reach.kp G_reach.b .nil (passL) (pa_cons (pv 10) (pa_cons (pv 3) (pa_nil))))) (pss_cons (ps_set (i := 12) sc_l_law.nd rfl (Or.inl rfl) (pe_call G_middle.ok hr_3 (by rfl) G_middle.mg G_middle.kp G_middle.b .nil (passL) (pa_cons (pv 10) (pa_cons (pv 3) (pa_nil))))) (pss_cons (ps_if (PW.pt (pw_or (pt_cmpR (op_neG hr.units) (pv 10) (pv 1) (nomark _)) (pw_or (pt_not (pt_val (pe_call G_l_whole.ok hr_1 (by rfl) G_l_whole.mg G_l_whole.kp G_l_whole.b .nil (passL) (pa_cons (pv 11) (pa_nil))))) (pw_or1 (pt_not (pt_val (pe_call G_l_whole.ok hr_1 (by rfl) G_l_whole.mg G_l_whole.kp G_l_whole.b .nil (passL) (pa_cons (pv 12) (pa_nil))))))))) (pss_one (ps_ret (pe_bl))) (pss_nil)) (pss_one (ps_ret (pe_and (pe_cmpR (op_eqG hr.units) (pv 11) (pe_dget (hu_of hr) (pv 7) (pv 3) (fun _ _ => rfl)) (nomark _)) (pe_one (pe_cmpR (op_eqG hr.units) (pv 12) (pe_callB (cr_max rfl) (by rfl) T.max_ (by decide +kernel) (pa_cons (pe_lc (own := [("_law_one", 5)]) (g := gName 5) (tt := tTest (tOp (rEqG A.K) (tDGet (tVar 7) (tVar 5)) (tVar 9))) rfl sc_l_law.nd (pi_list (pv 6)) (blkOk_by (own := [("_law_one", 5)]) (N := n_l_law) (sc := defScope s_l_law) (by decide +kernel)) (fun _ _ _ _ _ => pg_name (i := 5) sc_l_law.nd rfl (Or.inl rfl)) (fun _ _ _ _ _ => pts_one (pt_cmpR (op_eqG hr.units) (pe_dget (hu_of hr) (pv 7) (pv 5) (fun _ _ => rfl)) (pv 9) (nomark _))) (fun _ _ _ _ _ => pv 5)) (pa_nil))) (nomark _))))))))))))))))))
end
/-! ### the head -/
def dd_chain_of : He.DefD := ⟨("chain_of", none), "chain_of", "chain_of", defArgs s_chain_of, defBody s_chain_of, defScope s_chain_of, [], []⟩
def dd_tree_of : He.DefD := ⟨("tree_of", none), "tree_of", "tree_of", defArgs s_tree_of, defBody s_tree_of, defScope s_tree_of, [], []⟩
def dd_sides : He.DefD := ⟨("sides", none), "sides", "sides", defArgs s_sides, defBody s_sides, defScope s_sides, [], []⟩
def dd_reach : He.DefD := ⟨("reach", none), "reach", "reach", defArgs s_reach, defBody s_reach, defScope s_reach, [], []⟩
def dd_middle : He.DefD := ⟨("middle", none), "middle", "middle", defArgs s_middle, defBody s_middle, defScope s_middle, [], []⟩
def dd_l_cell_at : He.DefD := ⟨("_law_cell_at", none), "_law_cell_at", "_law_cell_at", defArgs s_l_cell_at, defBody s_l_cell_at, defScope s_l_cell_at, [], []⟩
def dd_l_whole : He.DefD := ⟨("_law_whole", none), "_law_whole", "_law_whole", defArgs s_l_whole, defBody s_l_whole, defScope s_l_whole, [], []⟩
def dd_l_wood : He.DefD := ⟨("_law_wood", none), "_law_wood", "_law_wood", defArgs s_l_wood, defBody s_l_wood, defScope s_l_wood, [], []⟩
def dd_l_chain : He.DefD := ⟨("_law_chain", none), "_law_chain", "_law_chain", defArgs s_l_chain, defBody s_l_chain, defScope s_l_chain, [], []⟩
def dd_l_between : He.DefD := ⟨("_law_between", none), "_law_between", "_law_between", defArgs s_l_between, defBody s_l_between, defScope s_l_between, [], []⟩
def dd_l_law : He.DefD := ⟨("law", none), "law", "law", defArgs s_l_law, defBody s_l_law, defScope s_l_law, [], []⟩
def fn : List He.DefD := [dd_chain_of, dd_tree_of, dd_sides, dd_reach, dd_middle, dd_l_cell_at, dd_l_whole, dd_l_wood, dd_l_chain, dd_l_between, dd_l_law]
def fa : List He.Fa := [.free "bool", .free "dict", .free "int", .free "isinstance", .free "len", .free "list", .free "max", .free "min", .free "range", .glo "chain_of", .glo "tree_of", .glo "sides", .glo "reach", .glo "middle", .glo "_law_cell_at", .glo "_law_whole", .glo "_law_wood", .glo "_law_chain", .glo "_law_between", .glo "law"]
def ex (K : PySem.W.Frag) : Bool := true
def loose0 : List Str := ["chain_of", "tree_of", "sides", "reach", "middle", "_law_cell_at", "_law_whole", "_law_wood", "_law_chain", "_law_between"]
def loose : List Str := loose0
abbrev R : PySem.W.OpenRow := PySem.W.OpenLaw.row PySem.Challenge.rw_packdelta_k05_reach_and_middle
abbrev hk : PySem.W.Hook := hookP 5 fa fn ex
def ob (s : PySem.W.SharedT) : He.AlD × Bool := obsP 5 fa fn ex (HandSHeadRun.getT s)
theorem ob_eq (s : PySem.W.SharedT) : ob s = hk.obs s.abs := obsP_eq (HandSHeadRun.getT_eq s)
theorem run (w : World) : HandSHeadRun.RunEq R (PySem.W.view R.prog [12]) hk ob 4000 loose w := by
  intro os
  open PyProof.Rows in kernel_rfl
abbrev adOf (K : PySem.W.Frag) : Ad := ⟨K, 0, 0, 0, 0, 0, 0, 0, 0⟩
theorem facts {P : Program} {w : World} {K : PySem.W.Frag} {h : Heap} {mg : Str → Option Value} {f : Addr} (X : K.In h) (G : h.Ns mainGlobals mg) (hfa : mg ("law" : Str) = some (.ref f)) (c : He.SaysD fa fn K) (cx : ex K = true) :
    ∃ fd : FuncData, (∀ (s : Shared) (v : Value), BindsTo s fd ⟨[v], []⟩ [("_law_script", v)]) ∧ ∀ base : Heap, K.In base → base.Ns mainGlobals mg → FnOk P w K mg base CX0 4 f fd ["_law_script"] (sp_l_law (adOf K)) := by
  obtain ⟨fd_chain_of, F_chain_of⟩ := c.def_ 0 (d := dd_chain_of) rfl
  obtain ⟨fd_tree_of, F_tree_of⟩ := c.def_ 1 (d := dd_tree_of) rfl
  obtain ⟨fd_sides, F_sides⟩ := c.def_ 2 (d := dd_sides) rfl
  obtain ⟨fd_reach, F_reach⟩ := c.def_ 3 (d := dd_reach) rfl
  obtain ⟨fd_middle, F_middle⟩ := c.def_ 4 (d := dd_middle) rfl
  obtain ⟨fd_l_cell_at, F_l_cell_at⟩ := c.def_ 5 (d := dd_l_cell_at) rfl
  obtain ⟨fd_l_whole, F_l_whole⟩ := c.def_ 6 (d := dd_l_whole) rfl
  obtain ⟨fd_l_wood, F_l_wood⟩ := c.def_ 7 (d := dd_l_wood) rfl
  obtain ⟨fd_l_chain, F_l_chain⟩ := c.def_ 8 (d := dd_l_chain) rfl
  obtain ⟨fd_l_between, F_l_between⟩ := c.def_ 9 (d := dd_l_between) rfl
  obtain ⟨fd_l_law, F_l_law⟩ := c.def_ 10 (d := dd_l_law) rfl
  have e := hfa.symm.trans (He.glo_ok X G (c.fact 19 (f := .glo "law") rfl))
  cases e
  have T : TF (adOf K) mg := ⟨by exact He.free_ok X G (c.fact 0 (f := .free "bool") rfl), by exact He.free_ok X G (c.fact 1 (f := .free "dict") rfl), by exact He.free_ok X G (c.fact 2 (f := .free "int") rfl), by exact He.free_ok X G (c.fact 3 (f := .free "isinstance") rfl), by exact He.free_ok X G (c.fact 4 (f := .free "len") rfl), by exact He.free_ok X G (c.fact 5 (f := .free "list") rfl), by exact He.free_ok X G (c.fact 6 (f := .free "max") rfl), by exact He.free_ok X G (c.fact 7 (f := .free "min") rfl), by exact He.free_ok X G (c.fact 8 (f := .free "range") rfl)⟩

  have b := FunD.bindsA (ps := ["_law_script"]) F_l_law fun _ _ _ _ _ _ us hl => match us, hl with | [_], _ => rfl
  refine ⟨fd_l_law, fun s v => b s [v] rfl, fun base _ _ => ?_⟩
  have G_chain_of : FnAt P w K mg base "chain_of" 1 a_chain_of (sp_chain_of (adOf K)) _ fd_chain_of := ⟨d_chain_of T  F_chain_of , He.glo_ok X G (c.fact 9 (f := .glo "chain_of") rfl), F_chain_of.kp, FunD.bindsN F_chain_of fun _ _ _ _ _ _ us hl => match us, hl with | [_, _], _ => rfl⟩
  have G_sides : FnAt P w K mg base "sides" 1 a_sides (sp_sides (adOf K)) _ fd_sides := ⟨d_sides T  F_sides , He.glo_ok X G (c.fact 11 (f := .glo "sides") rfl), F_sides.kp, FunD.bindsN F_sides fun _ _ _ _ _ _ us hl => match us, hl with | [_], _ => rfl⟩
  have G_l_cell_at : FnAt P w K mg base "_law_cell_at" 1 a_l_cell_at (sp_l_cell_at (adOf K)) _ fd_l_cell_at := ⟨d_l_cell_at T  F_l_cell_at , He.glo_ok X G (c.fact 14 (f := .glo "_law_cell_at") rfl), F_l_cell_at.kp, FunD.bindsN F_l_cell_at fun _ _ _ _ _ _ us hl => match us, hl with | [_, _], _ => rfl⟩
  have G_l_whole : FnAt P w K mg base "_law_whole" 1 a_l_whole (sp_l_whole (adOf K)) _ fd_l_whole := ⟨d_l_whole T  F_l_whole , He.glo_ok X G (c.fact 15 (f := .glo "_law_whole") rfl), F_l_whole.kp, FunD.bindsN F_l_whole fun _ _ _ _ _ _ us hl => match us, hl with | [_], _ => rfl⟩
  have G_l_chain : FnAt P w K mg base "_law_chain" 1 a_l_chain (sp_l_chain (adOf K)) _ fd_l_chain := ⟨d_l_chain T  F_l_chain , He.glo_ok X G (c.fact 17 (f := .glo "_law_chain") rfl), F_l_chain.kp, FunD.bindsN F_l_chain fun _ _ _ _ _ _ us hl => match us, hl with | [_, _], _ => rfl⟩
  have G_l_between : FnAt P w K mg base "_law_between" 1 a_l_between (sp_l_between (adOf K)) _ fd_l_between := ⟨d_l_between T  F_l_between , He.glo_ok X G (c.fact 18 (f := .glo "_law_between") rfl), F_l_between.kp, FunD.bindsN F_l_between fun _ _ _ _ _ _ us hl => match us, hl with | [_, _], _ => rfl⟩
  have G_tree_of : FnAt P w K mg base "tree_of" 2 a_tree_of (sp_tree_of (adOf K)) _ fd_tree_of := ⟨d_tree_of T  F_tree_of G_chain_of, He.glo_ok X G (c.fact 10 (f := .glo "tree_of") rfl), F_tree_of.kp, FunD.bindsN F_tree_of fun _ _ _ _ _ _ us hl => match us, hl with | [_, _], _ => rfl⟩
  have G_reach : FnAt P w K mg base "reach" 2 a_reach (sp_reach (adOf K)) _ fd_reach := ⟨d_reach T  F_reach G_sides, He.glo_ok X G (c.fact 12 (f := .glo "reach") rfl), F_reach.kp, FunD.bindsN F_reach fun _ _ _ _ _ _ us hl => match us, hl with | [_, _], _ => rfl⟩
  have G_l_wood : FnAt P w K mg base "_law_wood" 2 a_l_wood (sp_l_wood (adOf K)) _ fd_l_wood := ⟨d_l_wood T  F_l_wood G_l_cell_at, He.glo_ok X G (c.fact 16 (f := .glo "_law_wood") rfl), F_l_wood.kp, FunD.bindsN F_l_wood fun _ _ _ _ _ _ us hl => match us, hl with | [_], _ => rfl⟩
  have G_middle : FnAt P w K mg base "middle" 3 a_middle (sp_middle (adOf K)) _ fd_middle := ⟨d_middle T  F_middle G_reach G_tree_of, He.glo_ok X G (c.fact 13 (f := .glo "middle") rfl), F_middle.kp, FunD.bindsN F_middle fun _ _ _ _ _ _ us hl => match us, hl with | [_, _], _ => rfl⟩
  exact d_l_law T  F_l_law G_l_wood G_reach G_middle G_l_chain G_l_cell_at G_l_whole G_l_between
end Pk
open PySem PySem.W PySem.Calls PyProof.Rows
set_option maxHeartbeats 0 in
theorem PySem.Challenge.cw_packdelta_k05_reach_and_middle_holds : PySem.Challenge.rw_packdelta_k05_reach_and_middle.Holds := by
  w_on; o_law
  refine HandSHeadRun.head_any (r := OpenLaw.row PySem.Challenge.rw_packdelta_k05_reach_and_middle) (q := view (OpenLaw.row PySem.Challenge.rw_packdelta_k05_reach_and_middle).prog [12]) (H := Pk.hk) (ob := Pk.ob) (M := 4000) (loose := Pk.loose)
    (d := HandSHeadRun.topDef (OpenLaw.row PySem.Challenge.rw_packdelta_k05_reach_and_middle).prog 12) (kwd := []) Pk.ob_eq (by kernel_rfl) (fun s => by kernel_rfl) Pk.run (by kernel_rfl) (by kernel_rfl) (by kernel_rfl) (by rfl)
    (by first | assumption | decide +kernel) (by decide +kernel) ⟨rfl, rfl, rfl, rfl, rfl, by decide +kernel⟩ ?hw ?hc
  case hw => w_witness2
  case hc =>
    refine L2.walk_ofE (l := PySem.Challenge.rw_packdelta_k05_reach_and_middle) (n := 63) (k := 4) (x := "_law_script") (CX := L2.CX0) rfl (by decide) (by kernel_rfl) ⟨rfl, by decide, by decide⟩ ?F ?cx
    case cx => exact fun _ _ _ _ z => z
    intro w mg fa h Y G hmg0
    obtain ⟨K, KX, c, cx⟩ := Y
    have hmg : mg ("law" : PySem.Str) = some (.ref fa) := by
      have e : (HandSHeadRun.topDef (OpenLaw.row PySem.Challenge.rw_packdelta_k05_reach_and_middle).prog 12).name = ("law" : PySem.Str) := by kernel_rfl
      rw [← e]
      exact hmg0
    obtain ⟨fd, hb, hF⟩ := Pk.facts (P := (PySem.Challenge.rw_packdelta_k05_reach_and_middle).prog) (w := w) KX G hmg c cx
    exact ⟨K, fd, Pk.sp_l_law (Pk.adOf K), KX, hb, fun H a ns hl _ hS => Pk.end_law a ns hl hS (fun _ => rfl), hF⟩

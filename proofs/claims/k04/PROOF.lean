import PyProof.Rows.All
import Wide.All
import OpenK.AllK
import Wide.FinOn
import KE.KStateDown
import HandS.ForMost
import HandS.Exc
import HandS.TryOnly
import HandS.ExcOwn
import HandS.WordsExc
import HandS.TryMany
import HandS.IsInst
import HandS.ExcIs
import HandS.More
import HandS.DeepEq
import HandS.DictComp
import HandS.Walk
import HandS.Codes
import HandS.SuiteRaise
import HandS.Defaults
import HandS.HeadHook2
import HandS.Head0
import HandS.Head1
import HandS.Head2
import HandS.HeadEnd
import PySem.Challenge.RW_packdelta_k04_chains
set_option Elab.async false
set_option linter.all false
set_option maxRecDepth 100000
set_option maxHeartbeats 4000000
/-! PkA: one lemma for each reading, so that a reading is walked by its head. -/
namespace Pk
open PySem PySem.Spec L2
open C8 (tCut pss_cut)

/-- the addresses that a row's text has, by name -/
structure Ad where
  K : PySem.W.Frag
  cPack : Addr
  cBadBound : Addr
  cBadRows : Addr
  cInRing : Addr
  cNoFit : Addr
  cNoVersion : Addr
  cTooFar : Addr
  cPackError : Addr

/-! ### texts as lists of signs -/
abbrev S (l : List Nat) : Str := ⟨l.toArray⟩
theorem S_len (l : List Nat) : (S l).length = l.length := by simp [Str.length]
theorem S_app (a b : List Nat) : (S a) ++ (S b) = S (a ++ b) := by
  show Str.append (S a) (S b) = _
  simp [Str.append]
theorem S_inj {a b : List Nat} (h : S a = S b) : a = b := by
  have := congrArg (fun s : Str => s.cps.toList) h
  simpa using this
theorem S_of (z : Str) : ∃ l, z = S l := ⟨z.cps.toList, by cases z; simp⟩
/-- signs that there are -/
abbrev Ok (l : List Nat) : Prop := ∀ c ∈ l, c < 1114112
theorem lit (s : String) (n : Nat) (h : (Str.ofString s).length = n) (h2 : ((Str.ofString s).cps.toList.all fun c => decide (c < 1114112)) = true) : ∃ l, Str.ofString s = S l ∧ l.length = n ∧ Ok l := by
  obtain ⟨l, e⟩ := S_of (Str.ofString s)
  refine ⟨l, e, by rw [← S_len, ← e, h], fun c hc => ?_⟩
  rw [e] at h2
  have h3 : ∀ x, x ∈ l → x < 1114112 := by simpa using h2
  exact h3 c hc
theorem S_lit (s : String) (l : List Nat) (h : Str.ofString s = S l) : (Str.ofString s) = S l := h
def cutL (l : List Nat) (lo hi : Option Int) : List Nat := (l.drop (HT.sIx l.length 0 lo)).take (HT.sIx l.length l.length hi - HT.sIx l.length 0 lo)
theorem S_cut (l : List Nat) (lo hi : Option Int) : cutS (S l) lo hi = S (cutL l lo hi) := by
  unfold cutS cutL
  rw [S_len]

/-! ### operators of several kinds -/
def rAdd3 : R2 := fun x y H Q => (∃ i j, x = .int i ∧ y = .int j ∧ Q (.int (i + j)) H) ∨ (∃ i j, x = .str i ∧ y = .str j ∧ i.length + j.length ≤ sizeLine ∧ Q (.str (i ++ j)) H) ∨ rCat x y H Q
theorem op_add3 {X : Cx} : OpR X (binaryOp .Add) rAdd3 := OpR.or op_add (OpR.or op_add_str op_cat)
def rSub : R2 := rI0 fun i j => .int (i - j)
def rMul : R2 := rI CMul fun i j => .int (i * j)
def rDiv : R2 := rI CDiv fun i j => .int (i / j)
def rMod : R2 := rI (fun _ j => 0 < j) fun i j => .int (i % j)
def rPow : R2 := rI CPow fun i j => .int (i ^ j.toNat)
def rNeg : V → Hp → VK → Prop := rU fun i => .int (-i)
def rLt : R2 := rI0 fun i j => .bl (decide (i < j))
def rLe : R2 := rI0 fun i j => .bl (decide (i ≤ j))
def rGt : R2 := rI0 fun i j => .bl (decide (j < i))
def rGe : R2 := rI0 fun i j => .bl (decide (j ≤ i))
def rEqG (K : PySem.W.Frag) : R2 := fun x y H Q => rEq x y H Q ∨ rEqD K x y H Q ∨ rEqDA x y H Q ∨ rEqV K x y H Q
def rNeG (K : PySem.W.Frag) : R2 := fun x y H Q => rNe x y H Q ∨ rNeD K x y H Q ∨ rNeDA x y H Q
theorem op_eqG {X : Cx} (hu : X.A.units + 64 < cLine) : OpR X (compareOp .Eq) (rEqG X.K) := OpR.or op_eq (OpR.or (op_eqD hu) (OpR.or (op_eq_dictA (by omega)) (op_eqV hu)))
theorem op_neG {X : Cx} (hu : X.A.units + 64 < cLine) : OpR X (compareOp .NotEq) (rNeG X.K) := OpR.or op_ne (OpR.or (op_neD hu) (op_ne_dictA (by omega)))
def rSl2 (K : PySem.W.Frag) : V → Option Int → Option Int → Hp → VK → Prop := fun x lo hi H Q => rSlL K x lo hi H Q ∨ rSlS x lo hi H Q
theorem sl_2 {X : Cx} : SlR X (rSl2 X.K) := SlR.or sl_list sl_str
theorem callR_or {X : Cx} {f : Value} {r r' : List V → Hp → VK → Prop} (h : CallR X f r) (h' : CallR X f r') : CallR X f (fun xs H Q => r xs H Q ∨ r' xs H Q) := by
  intro pins s σ H xs us Q I rv hw
  rcases hw with hw | hw
  · exact h pins s σ H xs us Q I rv hw
  · exact h' pins s σ H xs us Q I rv hw
def rLenG (K : PySem.W.Frag) : List V → Hp → VK → Prop := fun xs H Q => (∃ p ys, xs = [.ref p] ∧ (SqL K H p ys ∨ SqT K H p ys) ∧ Q (.int ys.length) H) ∨ (∃ z, xs = [.str z] ∧ z.length ≤ sizeLine ∧ Q (.int z.length) H) ∨ (∃ a kvs, xs = [V.ref a] ∧ H a = some (.dK kvs) ∧ Q (.int kvs.length) H)
theorem call_lenG {X : Cx} : CallR X (.builtin "len") (rLenG X.K) := callR_or call_len_seq (callR_or call_len_str call_lenD)
def rListG (K : PySem.W.Frag) : List V → Hp → VK → Prop := fun xs H Q => (∃ p ys, xs = [.ref p] ∧ (SqL K H p ys ∨ SqT K H p ys) ∧ ∀ l, H l = none → Q (.ref l) (upd H l (.lst ys))) ∨ (∃ (a : Addr) (kvs : List (Key × V)), xs = [.ref a] ∧ Rd H a (.dK kvs) ∧ ∀ p, H p = none → Q (.ref p) (upd H p (.lst (kvs.map fun kv => kV kv.1))))
theorem call_listG {X : Cx} (hc : X.calm = true) : CallR X (.type "list") (rListG X.K) := callR_or call_list_of (call_listD hc)
def rDictD : List V → Hp → VK → Prop := fun xs H Q => ∃ (a : Addr) (kvs : List (Key × V)), xs = [.ref a] ∧ Rd H a (.dK kvs) ∧ ∀ p, H p = none → Q (.ref p) (upd H p (.dK kvs))
def rSortedDI : List V → Hp → VK → Prop := fun xs H Q => ∃ (a : Addr) (kvs : List (Key × V)) (ks : List Int), xs = [.ref a] ∧ Rd H a (.dK kvs) ∧ kvs.map (·.1) = ks.map Sum.inl ∧ ks.length < 64 ∧ ∀ (ys : List Int) (p : Addr), ys.Perm ks → ys.Pairwise (· ≤ ·) → H p = none → Q (.ref p) (upd H p (.lst (ys.map V.int)))
def rStrI : List V → Hp → VK → Prop := fun xs H Q => ∃ i, xs = [.int i] ∧ i.natAbs.log2 < 1920 ∧ Q (.str (toString i)) H
def rInt1 : List V → Hp → VK → Prop := fun xs H Q => (∃ i, xs = [.int i] ∧ Q (.int i) H) ∨ ∃ k, xs = [.bl k] ∧ Q (.int (if k then 1 else 0)) H
def rMax2 : List V → Hp → VK → Prop := fun xs H Q => ∃ i j, xs = [.int i, .int j] ∧ Q (.int (if j > i then j else i)) H
def rMin2 : List V → Hp → VK → Prop := fun xs H Q => ∃ i j, xs = [.int i, .int j] ∧ Q (.int (if j < i then j else i)) H
def rJoin (K : PySem.W.Frag) : V → List V → Hp → VK → Prop := fun x xs H Q => ∃ a p, ∃ ys : List Str, x = .str a ∧ xs = [.ref p] ∧ (SqL K H p (ys.map V.str) ∨ SqT K H p (ys.map V.str)) ∧ (ys.map (·.length)).sum + ys.length * a.length ≤ 16777216 ∧ Q (.str (Txt.join a ys)) H
def tRaise (C : Addr) (E : XK) : TS := fun _ _ H => E (.ref C) none H

/-! ### readings by their heads; the ends in the form ⟨nx, rt, bk, ct⟩ -/
section
variable {t u : TS} {nx : St → Hp → Prop} {rt : VK} {bk ct : St → Hp → Prop} {σ : St} {H : Hp} {te ta tb : TE} {g : TG} {tt tu : TT} {Q : VK} {QB : Bool → Hp → Prop} {QA : List V → Hp → Prop}
theorem r_seq (h : t ⟨u ⟨nx, rt, bk, ct⟩, rt, bk, ct⟩ σ H) : tSeq t u ⟨nx, rt, bk, ct⟩ σ H := h
theorem r_cut (Mid : St → Hp → Prop) (h : t ⟨Mid, rt, bk, ct⟩ σ H) (h2 : ∀ σ' H', Mid σ' H' → u ⟨nx, rt, bk, ct⟩ σ' H') : tCut t u ⟨nx, rt, bk, ct⟩ σ H := ⟨Mid, h, h2⟩
theorem r_seqD {D : Ends} (h : t ⟨u D, D.rt, D.bk, D.ct⟩ σ H) : tSeq t u D σ H := h
theorem r_next (h : nx σ H) : tNext ⟨nx, rt, bk, ct⟩ σ H := h
theorem r_brk (h : bk σ H) : tBreak ⟨nx, rt, bk, ct⟩ σ H := h
theorem r_asg (h : te σ H fun x H1 => g x σ H1 nx) : tAsg te g ⟨nx, rt, bk, ct⟩ σ H := h
theorem r_drop (h : te σ H fun _ H1 => nx σ H1) : tDrop te ⟨nx, rt, bk, ct⟩ σ H := h
theorem r_ret (h : te σ H rt) : tRet te ⟨nx, rt, bk, ct⟩ σ H := h
theorem r_ifS (h : tt σ H fun b H1 => if b = true then t ⟨nx, rt, bk, ct⟩ σ H1 else u ⟨nx, rt, bk, ct⟩ σ H1) : tIfS tt t u ⟨nx, rt, bk, ct⟩ σ H := h
theorem r_ite {b : Bool} {A B : Prop} (h1 : b = true → A) (h2 : b = false → B) : if b = true then A else B := by
  cases b
  · rw [if_neg Bool.false_ne_true]; exact h2 rfl
  · rw [if_pos rfl]; exact h1 rfl
theorem r_dec {p : Prop} [Decidable p] {A B : Prop} (h1 : p → A) (h2 : ¬ p → B) : if decide p = true then A else B := by
  by_cases h : p
  · rw [decide_eq_true h, if_pos rfl]; exact h1 h
  · rw [decide_eq_false h, if_neg Bool.false_ne_true]; exact h2 h
theorem r_ndec {p : Prop} [Decidable p] {A B : Prop} (h1 : ¬ p → A) (h2 : p → B) : if (!decide p) = true then A else B := by
  by_cases h : p
  · rw [decide_eq_true h]; exact h2 h
  · rw [decide_eq_false h]; exact h1 h
theorem r_nT {A B : Prop} (h : B) : if (!true) = true then A else B := by
  rw [if_neg (by decide)]; exact h
theorem r_nF {A B : Prop} (h : A) : if (!false) = true then A else B := by
  rw [if_pos (by decide)]; exact h
theorem r_raise {C : Addr} {E : XK} {D : Ends} (h : E (.ref C) none H) : tRaise C E D σ H := h
/-! tests -/
theorem r_test (h : te σ H fun x H' => ∃ k, x = .bl k ∧ QB k H') : tTest te σ H QB := h
theorem r_B (h : te σ H fun x H1 => ∃ c, x = .bl c ∧ QB c H1) : tB te σ H QB := h
theorem r_bl {b : Bool} (h : QB b H) : ∃ k, V.bl b = .bl k ∧ QB k H := ⟨b, rfl, h⟩
theorem r_and (h : tt σ H fun c H1 => if c = true then tu σ H1 QB else QB false H1) : tAnd tt tu σ H QB := h
theorem r_or (h : tt σ H fun c H1 => if c = true then QB true H1 else tu σ H1 QB) : tOr tt tu σ H QB := h
theorem r_not (h : tt σ H fun c H1 => QB (!c) H1) : tNot tt σ H QB := h
theorem r_isN (h : ta σ H fun x H1 => Q (.bl (decide (x = .non))) H1) : tIsN ta σ H Q := h
theorem r_notN (h : ta σ H fun x H1 => Q (.bl (!decide (x = .non))) H1) : tNotN ta σ H Q := h
/-! values -/
theorem r_var {i : Nat} {v : V} (e : σ[i]? = some (some v)) (h : Q v H) : tVar i σ H Q := ⟨v, e, h⟩
theorem r_c {v : V} (h : Q v H) : tC v σ H Q := h
theorem r_op {r : R2} (h : ta σ H fun x H1 => tb σ H1 fun y H2 => r x y H2 Q) : tOp r ta tb σ H Q := h
theorem r_un {r : V → Hp → VK → Prop} (h : ta σ H fun x H1 => r x H1 Q) : tUn r ta σ H Q := h
theorem r_nil (h : QA [] H) : tNil σ H QA := h
theorem r_cons {tr : TA} (h : ta σ H fun x H1 => tr σ H1 fun xs H2 => QA (x :: xs) H2) : tCons ta tr σ H QA := h
theorem r_andV (h : ta σ H fun x H1 => ∃ c, x = .bl c ∧ if c = true then tb σ H1 Q else Q (.bl false) H1) : tAndV ta tb σ H Q := h
theorem r_orV (h : ta σ H fun x H1 => ∃ c, x = .bl c ∧ if c = true then Q (.bl true) H1 else tb σ H1 Q) : tOrV ta tb σ H Q := h
theorem r_notV (h : ta σ H fun x H1 => ∃ c, x = .bl c ∧ Q (.bl (!c)) H1) : tNotV ta σ H Q := h
theorem r_ifE (h : tt σ H fun c H1 => if c = true then ta σ H1 Q else tb σ H1 Q) : tIf tt ta tb σ H Q := h
theorem r_blP {b : Bool} {P : Bool → Prop} (h : P b) : ∃ c, V.bl b = .bl c ∧ P c := ⟨b, rfl, h⟩
/-! stores to slots -/
theorem r_set {i : Nat} {v : V} {σ' : St} {K : St → Hp → Prop} (e : σ.set i (some v) = σ') (h : K σ' H) : gName i v σ H K := by
  show K (σ.set i (some v)) H
  rw [e]
  exact h
theorem r_v0 {v : V} {t : St} (h : Q v H) : tVar 0 (some v :: t) H Q := ⟨v, rfl, h⟩
theorem r_n0 {y : Option V} {v : V} {t : St} {F : St → Hp → Prop} (h : F (some v :: t) H) : gName 0 v (y :: t) H F := h
theorem r_v1 {x0 : Option V} {v : V} {t : St} (h : Q v H) : tVar 1 (x0 :: some v :: t) H Q := ⟨v, rfl, h⟩
theorem r_n1 {x0 : Option V} {y : Option V} {v : V} {t : St} {F : St → Hp → Prop} (h : F (x0 :: some v :: t) H) : gName 1 v (x0 :: y :: t) H F := h
theorem r_v2 {x0 x1 : Option V} {v : V} {t : St} (h : Q v H) : tVar 2 (x0 :: x1 :: some v :: t) H Q := ⟨v, rfl, h⟩
theorem r_n2 {x0 x1 : Option V} {y : Option V} {v : V} {t : St} {F : St → Hp → Prop} (h : F (x0 :: x1 :: some v :: t) H) : gName 2 v (x0 :: x1 :: y :: t) H F := h
theorem r_v3 {x0 x1 x2 : Option V} {v : V} {t : St} (h : Q v H) : tVar 3 (x0 :: x1 :: x2 :: some v :: t) H Q := ⟨v, rfl, h⟩
theorem r_n3 {x0 x1 x2 : Option V} {y : Option V} {v : V} {t : St} {F : St → Hp → Prop} (h : F (x0 :: x1 :: x2 :: some v :: t) H) : gName 3 v (x0 :: x1 :: x2 :: y :: t) H F := h
theorem r_v4 {x0 x1 x2 x3 : Option V} {v : V} {t : St} (h : Q v H) : tVar 4 (x0 :: x1 :: x2 :: x3 :: some v :: t) H Q := ⟨v, rfl, h⟩
theorem r_n4 {x0 x1 x2 x3 : Option V} {y : Option V} {v : V} {t : St} {F : St → Hp → Prop} (h : F (x0 :: x1 :: x2 :: x3 :: some v :: t) H) : gName 4 v (x0 :: x1 :: x2 :: x3 :: y :: t) H F := h
theorem r_v5 {x0 x1 x2 x3 x4 : Option V} {v : V} {t : St} (h : Q v H) : tVar 5 (x0 :: x1 :: x2 :: x3 :: x4 :: some v :: t) H Q := ⟨v, rfl, h⟩
theorem r_n5 {x0 x1 x2 x3 x4 : Option V} {y : Option V} {v : V} {t : St} {F : St → Hp → Prop} (h : F (x0 :: x1 :: x2 :: x3 :: x4 :: some v :: t) H) : gName 5 v (x0 :: x1 :: x2 :: x3 :: x4 :: y :: t) H F := h
theorem r_v6 {x0 x1 x2 x3 x4 x5 : Option V} {v : V} {t : St} (h : Q v H) : tVar 6 (x0 :: x1 :: x2 :: x3 :: x4 :: x5 :: some v :: t) H Q := ⟨v, rfl, h⟩
theorem r_n6 {x0 x1 x2 x3 x4 x5 : Option V} {y : Option V} {v : V} {t : St} {F : St → Hp → Prop} (h : F (x0 :: x1 :: x2 :: x3 :: x4 :: x5 :: some v :: t) H) : gName 6 v (x0 :: x1 :: x2 :: x3 :: x4 :: x5 :: y :: t) H F := h
theorem r_v7 {x0 x1 x2 x3 x4 x5 x6 : Option V} {v : V} {t : St} (h : Q v H) : tVar 7 (x0 :: x1 :: x2 :: x3 :: x4 :: x5 :: x6 :: some v :: t) H Q := ⟨v, rfl, h⟩
theorem r_n7 {x0 x1 x2 x3 x4 x5 x6 : Option V} {y : Option V} {v : V} {t : St} {F : St → Hp → Prop} (h : F (x0 :: x1 :: x2 :: x3 :: x4 :: x5 :: x6 :: some v :: t) H) : gName 7 v (x0 :: x1 :: x2 :: x3 :: x4 :: x5 :: x6 :: y :: t) H F := h
theorem r_v8 {x0 x1 x2 x3 x4 x5 x6 x7 : Option V} {v : V} {t : St} (h : Q v H) : tVar 8 (x0 :: x1 :: x2 :: x3 :: x4 :: x5 :: x6 :: x7 :: some v :: t) H Q := ⟨v, rfl, h⟩
theorem r_n8 {x0 x1 x2 x3 x4 x5 x6 x7 : Option V} {y : Option V} {v : V} {t : St} {F : St → Hp → Prop} (h : F (x0 :: x1 :: x2 :: x3 :: x4 :: x5 :: x6 :: x7 :: some v :: t) H) : gName 8 v (x0 :: x1 :: x2 :: x3 :: x4 :: x5 :: x6 :: x7 :: y :: t) H F := h
theorem r_v9 {x0 x1 x2 x3 x4 x5 x6 x7 x8 : Option V} {v : V} {t : St} (h : Q v H) : tVar 9 (x0 :: x1 :: x2 :: x3 :: x4 :: x5 :: x6 :: x7 :: x8 :: some v :: t) H Q := ⟨v, rfl, h⟩
theorem r_n9 {x0 x1 x2 x3 x4 x5 x6 x7 x8 : Option V} {y : Option V} {v : V} {t : St} {F : St → Hp → Prop} (h : F (x0 :: x1 :: x2 :: x3 :: x4 :: x5 :: x6 :: x7 :: x8 :: some v :: t) H) : gName 9 v (x0 :: x1 :: x2 :: x3 :: x4 :: x5 :: x6 :: x7 :: x8 :: y :: t) H F := h
theorem r_v10 {x0 x1 x2 x3 x4 x5 x6 x7 x8 x9 : Option V} {v : V} {t : St} (h : Q v H) : tVar 10 (x0 :: x1 :: x2 :: x3 :: x4 :: x5 :: x6 :: x7 :: x8 :: x9 :: some v :: t) H Q := ⟨v, rfl, h⟩
theorem r_n10 {x0 x1 x2 x3 x4 x5 x6 x7 x8 x9 : Option V} {y : Option V} {v : V} {t : St} {F : St → Hp → Prop} (h : F (x0 :: x1 :: x2 :: x3 :: x4 :: x5 :: x6 :: x7 :: x8 :: x9 :: some v :: t) H) : gName 10 v (x0 :: x1 :: x2 :: x3 :: x4 :: x5 :: x6 :: x7 :: x8 :: x9 :: y :: t) H F := h
theorem r_v11 {x0 x1 x2 x3 x4 x5 x6 x7 x8 x9 x10 : Option V} {v : V} {t : St} (h : Q v H) : tVar 11 (x0 :: x1 :: x2 :: x3 :: x4 :: x5 :: x6 :: x7 :: x8 :: x9 :: x10 :: some v :: t) H Q := ⟨v, rfl, h⟩
theorem r_n11 {x0 x1 x2 x3 x4 x5 x6 x7 x8 x9 x10 : Option V} {y : Option V} {v : V} {t : St} {F : St → Hp → Prop} (h : F (x0 :: x1 :: x2 :: x3 :: x4 :: x5 :: x6 :: x7 :: x8 :: x9 :: x10 :: some v :: t) H) : gName 11 v (x0 :: x1 :: x2 :: x3 :: x4 :: x5 :: x6 :: x7 :: x8 :: x9 :: x10 :: y :: t) H F := h
theorem r_v12 {x0 x1 x2 x3 x4 x5 x6 x7 x8 x9 x10 x11 : Option V} {v : V} {t : St} (h : Q v H) : tVar 12 (x0 :: x1 :: x2 :: x3 :: x4 :: x5 :: x6 :: x7 :: x8 :: x9 :: x10 :: x11 :: some v :: t) H Q := ⟨v, rfl, h⟩
theorem r_n12 {x0 x1 x2 x3 x4 x5 x6 x7 x8 x9 x10 x11 : Option V} {y : Option V} {v : V} {t : St} {F : St → Hp → Prop} (h : F (x0 :: x1 :: x2 :: x3 :: x4 :: x5 :: x6 :: x7 :: x8 :: x9 :: x10 :: x11 :: some v :: t) H) : gName 12 v (x0 :: x1 :: x2 :: x3 :: x4 :: x5 :: x6 :: x7 :: x8 :: x9 :: x10 :: x11 :: y :: t) H F := h
theorem r_v13 {x0 x1 x2 x3 x4 x5 x6 x7 x8 x9 x10 x11 x12 : Option V} {v : V} {t : St} (h : Q v H) : tVar 13 (x0 :: x1 :: x2 :: x3 :: x4 :: x5 :: x6 :: x7 :: x8 :: x9 :: x10 :: x11 :: x12 :: some v :: t) H Q := ⟨v, rfl, h⟩
theorem r_n13 {x0 x1 x2 x3 x4 x5 x6 x7 x8 x9 x10 x11 x12 : Option V} {y : Option V} {v : V} {t : St} {F : St → Hp → Prop} (h : F (x0 :: x1 :: x2 :: x3 :: x4 :: x5 :: x6 :: x7 :: x8 :: x9 :: x10 :: x11 :: x12 :: some v :: t) H) : gName 13 v (x0 :: x1 :: x2 :: x3 :: x4 :: x5 :: x6 :: x7 :: x8 :: x9 :: x10 :: x11 :: x12 :: y :: t) H F := h
theorem r_v14 {x0 x1 x2 x3 x4 x5 x6 x7 x8 x9 x10 x11 x12 x13 : Option V} {v : V} {t : St} (h : Q v H) : tVar 14 (x0 :: x1 :: x2 :: x3 :: x4 :: x5 :: x6 :: x7 :: x8 :: x9 :: x10 :: x11 :: x12 :: x13 :: some v :: t) H Q := ⟨v, rfl, h⟩
theorem r_n14 {x0 x1 x2 x3 x4 x5 x6 x7 x8 x9 x10 x11 x12 x13 : Option V} {y : Option V} {v : V} {t : St} {F : St → Hp → Prop} (h : F (x0 :: x1 :: x2 :: x3 :: x4 :: x5 :: x6 :: x7 :: x8 :: x9 :: x10 :: x11 :: x12 :: x13 :: some v :: t) H) : gName 14 v (x0 :: x1 :: x2 :: x3 :: x4 :: x5 :: x6 :: x7 :: x8 :: x9 :: x10 :: x11 :: x12 :: x13 :: y :: t) H F := h
theorem r_v15 {x0 x1 x2 x3 x4 x5 x6 x7 x8 x9 x10 x11 x12 x13 x14 : Option V} {v : V} {t : St} (h : Q v H) : tVar 15 (x0 :: x1 :: x2 :: x3 :: x4 :: x5 :: x6 :: x7 :: x8 :: x9 :: x10 :: x11 :: x12 :: x13 :: x14 :: some v :: t) H Q := ⟨v, rfl, h⟩
theorem r_n15 {x0 x1 x2 x3 x4 x5 x6 x7 x8 x9 x10 x11 x12 x13 x14 : Option V} {y : Option V} {v : V} {t : St} {F : St → Hp → Prop} (h : F (x0 :: x1 :: x2 :: x3 :: x4 :: x5 :: x6 :: x7 :: x8 :: x9 :: x10 :: x11 :: x12 :: x13 :: x14 :: some v :: t) H) : gName 15 v (x0 :: x1 :: x2 :: x3 :: x4 :: x5 :: x6 :: x7 :: x8 :: x9 :: x10 :: x11 :: x12 :: x13 :: x14 :: y :: t) H F := h
theorem r_v16 {x0 x1 x2 x3 x4 x5 x6 x7 x8 x9 x10 x11 x12 x13 x14 x15 : Option V} {v : V} {t : St} (h : Q v H) : tVar 16 (x0 :: x1 :: x2 :: x3 :: x4 :: x5 :: x6 :: x7 :: x8 :: x9 :: x10 :: x11 :: x12 :: x13 :: x14 :: x15 :: some v :: t) H Q := ⟨v, rfl, h⟩
theorem r_n16 {x0 x1 x2 x3 x4 x5 x6 x7 x8 x9 x10 x11 x12 x13 x14 x15 : Option V} {y : Option V} {v : V} {t : St} {F : St → Hp → Prop} (h : F (x0 :: x1 :: x2 :: x3 :: x4 :: x5 :: x6 :: x7 :: x8 :: x9 :: x10 :: x11 :: x12 :: x13 :: x14 :: x15 :: some v :: t) H) : gName 16 v (x0 :: x1 :: x2 :: x3 :: x4 :: x5 :: x6 :: x7 :: x8 :: x9 :: x10 :: x11 :: x12 :: x13 :: x14 :: x15 :: y :: t) H F := h
theorem r_v17 {x0 x1 x2 x3 x4 x5 x6 x7 x8 x9 x10 x11 x12 x13 x14 x15 x16 : Option V} {v : V} {t : St} (h : Q v H) : tVar 17 (x0 :: x1 :: x2 :: x3 :: x4 :: x5 :: x6 :: x7 :: x8 :: x9 :: x10 :: x11 :: x12 :: x13 :: x14 :: x15 :: x16 :: some v :: t) H Q := ⟨v, rfl, h⟩
theorem r_n17 {x0 x1 x2 x3 x4 x5 x6 x7 x8 x9 x10 x11 x12 x13 x14 x15 x16 : Option V} {y : Option V} {v : V} {t : St} {F : St → Hp → Prop} (h : F (x0 :: x1 :: x2 :: x3 :: x4 :: x5 :: x6 :: x7 :: x8 :: x9 :: x10 :: x11 :: x12 :: x13 :: x14 :: x15 :: x16 :: some v :: t) H) : gName 17 v (x0 :: x1 :: x2 :: x3 :: x4 :: x5 :: x6 :: x7 :: x8 :: x9 :: x10 :: x11 :: x12 :: x13 :: x14 :: x15 :: x16 :: y :: t) H F := h
theorem r_v18 {x0 x1 x2 x3 x4 x5 x6 x7 x8 x9 x10 x11 x12 x13 x14 x15 x16 x17 : Option V} {v : V} {t : St} (h : Q v H) : tVar 18 (x0 :: x1 :: x2 :: x3 :: x4 :: x5 :: x6 :: x7 :: x8 :: x9 :: x10 :: x11 :: x12 :: x13 :: x14 :: x15 :: x16 :: x17 :: some v :: t) H Q := ⟨v, rfl, h⟩
theorem r_n18 {x0 x1 x2 x3 x4 x5 x6 x7 x8 x9 x10 x11 x12 x13 x14 x15 x16 x17 : Option V} {y : Option V} {v : V} {t : St} {F : St → Hp → Prop} (h : F (x0 :: x1 :: x2 :: x3 :: x4 :: x5 :: x6 :: x7 :: x8 :: x9 :: x10 :: x11 :: x12 :: x13 :: x14 :: x15 :: x16 :: x17 :: some v :: t) H) : gName 18 v (x0 :: x1 :: x2 :: x3 :: x4 :: x5 :: x6 :: x7 :: x8 :: x9 :: x10 :: x11 :: x12 :: x13 :: x14 :: x15 :: x16 :: x17 :: y :: t) H F := h
theorem r_v19 {x0 x1 x2 x3 x4 x5 x6 x7 x8 x9 x10 x11 x12 x13 x14 x15 x16 x17 x18 : Option V} {v : V} {t : St} (h : Q v H) : tVar 19 (x0 :: x1 :: x2 :: x3 :: x4 :: x5 :: x6 :: x7 :: x8 :: x9 :: x10 :: x11 :: x12 :: x13 :: x14 :: x15 :: x16 :: x17 :: x18 :: some v :: t) H Q := ⟨v, rfl, h⟩
theorem r_n19 {x0 x1 x2 x3 x4 x5 x6 x7 x8 x9 x10 x11 x12 x13 x14 x15 x16 x17 x18 : Option V} {y : Option V} {v : V} {t : St} {F : St → Hp → Prop} (h : F (x0 :: x1 :: x2 :: x3 :: x4 :: x5 :: x6 :: x7 :: x8 :: x9 :: x10 :: x11 :: x12 :: x13 :: x14 :: x15 :: x16 :: x17 :: x18 :: some v :: t) H) : gName 19 v (x0 :: x1 :: x2 :: x3 :: x4 :: x5 :: x6 :: x7 :: x8 :: x9 :: x10 :: x11 :: x12 :: x13 :: x14 :: x15 :: x16 :: x17 :: x18 :: y :: t) H F := h
/-! operators -/
theorem r_add {i j : Int} (h : Q (.int (i + j)) H) : rAdd3 (.int i) (.int j) H Q := .inl ⟨i, j, rfl, rfl, h⟩
theorem r_addS {a b : List Nat} (hl : a.length + b.length ≤ sizeLine) (h : Q (.str (S (a ++ b))) H) : rAdd3 (.str (S a)) (.str (S b)) H Q :=
  .inr (.inl ⟨_, _, rfl, rfl, by rw [S_len, S_len]; exact hl, by rw [S_app]; exact h⟩)
theorem r_sub {i j : Int} (h : Q (.int (i - j)) H) : rSub (.int i) (.int j) H Q := ⟨i, j, rfl, rfl, h⟩
theorem r_mulL {i j : Int} (h1 : -(2 ^ 64) < i ∧ i < 2 ^ 64) (h : Q (.int (i * j)) H) : rMul (.int i) (.int j) H Q := ⟨i, j, rfl, rfl, .inl h1, h⟩
theorem r_mulR {i j : Int} (h1 : -(2 ^ 64) < j ∧ j < 2 ^ 64) (h : Q (.int (i * j)) H) : rMul (.int i) (.int j) H Q := ⟨i, j, rfl, rfl, .inr h1, h⟩
theorem r_div {i j : Int} (h1 : 0 < j ∧ j < 1073741824) (h : Q (.int (i / j)) H) : rDiv (.int i) (.int j) H Q := ⟨i, j, rfl, rfl, h1, h⟩
theorem r_mod {i j : Int} (h1 : 0 < j) (h : Q (.int (i % j)) H) : rMod (.int i) (.int j) H Q := ⟨i, j, rfl, rfl, h1, h⟩
theorem r_pow {i j : Int} (h1 : 0 ≤ j ∧ j ≤ 1000000 ∧ i.natAbs < 2 ^ 64) (h : Q (.int (i ^ j.toNat)) H) : rPow (.int i) (.int j) H Q := ⟨i, j, rfl, rfl, h1, h⟩
theorem r_neg {i : Int} (h : Q (.int (-i)) H) : rNeg (.int i) H Q := ⟨i, rfl, h⟩
theorem r_lt {i j : Int} (h : Q (.bl (decide (i < j))) H) : rLt (.int i) (.int j) H Q := ⟨i, j, rfl, rfl, h⟩
theorem r_le {i j : Int} (h : Q (.bl (decide (i ≤ j))) H) : rLe (.int i) (.int j) H Q := ⟨i, j, rfl, rfl, h⟩
theorem r_gt {i j : Int} (h : Q (.bl (decide (j < i))) H) : rGt (.int i) (.int j) H Q := ⟨i, j, rfl, rfl, h⟩
theorem r_ge {i j : Int} (h : Q (.bl (decide (j ≤ i))) H) : rGe (.int i) (.int j) H Q := ⟨i, j, rfl, rfl, h⟩
variable {K : PySem.W.Frag}
theorem dec_int (i j : Int) : decide (V.int i = V.int j) = decide (i = j) := by
  by_cases e : i = j
  · rw [decide_eq_true e, decide_eq_true (congrArg V.int e)]
  · rw [decide_eq_false e, decide_eq_false fun q => e (V.int.inj q)]
theorem dec_str (a b : List Nat) : decide (V.str (S a) = V.str (S b)) = decide (a = b) := by
  by_cases e : a = b
  · rw [decide_eq_true e, decide_eq_true (by rw [e])]
  · rw [decide_eq_false e, decide_eq_false fun q => e (S_inj (V.str.inj q))]
theorem r_eqI {i j : Int} (h : Q (.bl (decide (i = j))) H) : rEqG K (.int i) (.int j) H Q := .inl ⟨rfl, by rw [dec_int]; exact h⟩
theorem r_eqS {a b : List Nat} (h : Q (.bl (decide (a = b))) H) : rEqG K (.str (S a)) (.str (S b)) H Q := .inl ⟨rfl, by rw [dec_str]; exact h⟩
theorem r_neI {i j : Int} (h : Q (.bl (!decide (i = j))) H) : rNeG K (.int i) (.int j) H Q := .inl ⟨rfl, by rw [dec_int]; exact h⟩
theorem r_neS {a b : List Nat} (h : Q (.bl (!decide (a = b))) H) : rNeG K (.str (S a)) (.str (S b)) H Q := .inl ⟨rfl, by rw [dec_str]; exact h⟩
theorem r_eqV {x y : V} (hs : scal x y = true) (h : Q (.bl (decide (x = y))) H) : rEqG K x y H Q := .inl ⟨hs, h⟩
theorem r_neV {x y : V} (hs : scal x y = true) (h : Q (.bl (!decide (x = y))) H) : rNeG K x y H Q := .inl ⟨hs, h⟩
theorem r_eqD {x y : V} (d e : PyData) (h1 : Dp K H x d) (h2 : Dp K H y e) (s1 : SeqAt.shaped d = true) (s2 : SeqAt.shaped e = true) (h : Q (.bl (PyData.eqv d e)) H) : rEqG K x y H Q := .inr (.inl ⟨d, e, h1, h2, s1, s2, h⟩)
theorem r_neD {x y : V} (d e : PyData) (h1 : Dp K H x d) (h2 : Dp K H y e) (s1 : SeqAt.shaped d = true) (s2 : SeqAt.shaped e = true) (h : Q (.bl (!PyData.eqv d e)) H) : rNeG K x y H Q := .inr (.inl ⟨d, e, h1, h2, s1, s2, h⟩)
/-! slices, items -/
theorem r_sl {r : V → Option Int → Option Int → Hp → VK → Prop} {tl th : TO} (h : te σ H fun x H1 => tl σ H1 fun l H2 => th σ H2 fun v H3 => r x l v H3 Q) : tSl r te tl th σ H Q := h
theorem r_noPart {QO : Option Int → Hp → Prop} (h : QO none H) : tNoPart σ H QO := h
theorem r_part {QO : Option Int → Hp → Prop} (h : te σ H fun x H1 => ∃ i, x = .int i ∧ QO (some i) H1) : tPart te σ H QO := h
theorem r_int {i : Int} {P : Int → Prop} (h : P i) : ∃ k, V.int i = .int k ∧ P k := ⟨i, rfl, h⟩
theorem r_slS {a : List Nat} {lo hi : Option Int} (hl : a.length ≤ sizeLine) (h : Q (.str (S (cutL a lo hi))) H) : rSl2 K (.str (S a)) lo hi H Q :=
  .inr ⟨_, rfl, by rw [S_len]; exact hl, by rw [S_cut]; exact h⟩
theorem r_ixL {p : Addr} {xs : List V} {i : Int} {v : V} (hs : SqL K H p xs) (ha : atI xs i = some v) (h : Q v H) : rIx K (.ref p) (.int i) H Q := .inl ⟨p, xs, i, v, rfl, rfl, hs, ha, h⟩
theorem r_ixT {p : Addr} {xs : List V} {i : Int} {v : V} (hs : SqT K H p xs) (ha : atI xs i = some v) (h : Q v H) : rIx K (.ref p) (.int i) H Q := .inr (.inl ⟨p, xs, i, v, rfl, rfl, hs, ha, h⟩)
theorem r_ixS {a : List Nat} {i : Int} {c : Nat} (hl : a.length ≤ sizeLine) (ha : atI a i = some c) (h : Q (.str (S [c])) H) : rIx K (.str (S a)) (.int i) H Q :=
  .inr (.inr ⟨_, i, c, rfl, rfl, by rw [S_len]; exact hl, by simpa using ha, h⟩)
/-! new objects: the heap behind is told by what it bears -/
def Nw (H : Hp) (o : HO) (Q : VK) : Prop := ∀ p H2, H p = none → Same H H2 → H2 p = some o → Q (.ref p) H2
theorem same_new {H : Hp} {p : Addr} {o : HO} (h : H p = none) : Same H (upd H p o) := fun b u e => by
  rw [upd_ne (ne_of_none e h)]
  exact e
theorem Nw.go {o : HO} (h : Nw H o Q) : ∀ p, H p = none → Q (.ref p) (upd H p o) := fun p hp => h p _ hp (same_new hp) upd_same
def MkT (H : Hp) (xs : List V) (Q : VK) : Prop := xs.length ≤ sizeLine ∧ ∀ p, H p = none → Q (.ref p) (upd H p (.tup xs))
def MkL (H : Hp) (xs : List V) (Q : VK) : Prop := xs.length ≤ sizeLine ∧ ∀ p, H p = none → Q (.ref p) (upd H p (.lst xs))
theorem r_tup {t : TA} (h : t σ H fun xs H1 => MkT H1 xs Q) : tTup t σ H Q := h
theorem r_lst {t : TA} (h : t σ H fun xs H1 => MkL H1 xs Q) : tLst t σ H Q := h
theorem r_mkT {xs : List V} (hl : xs.length ≤ sizeLine) (h : Nw H (.tup xs) Q) : MkT H xs Q := ⟨hl, h.go⟩
theorem r_mkL {xs : List V} (hl : xs.length ≤ sizeLine) (h : Nw H (.lst xs) Q) : MkL H xs Q := ⟨hl, h.go⟩
theorem r_dnew (h : Nw H (.dK []) Q) : tDNewK σ H Q := h.go
theorem sz {n : Nat} (h : n ≤ 16777216) : n ≤ sizeLine := by rw [sizeLine_eq]; exact h
theorem szl {n : Nat} (h : n < 16777216) : n < sizeLine := by rw [sizeLine_eq]; exact h
/-! calls -/
theorem r_call {sp : Sp} {E : XK} {t : TA} (h : t σ H fun vs H1 => sp vs H1 Q E) : tCall sp [] E t σ H Q := by
  unfold tCall
  simpa using h
theorem r_cb {r : List V → Hp → VK → Prop} {t : TA} (h : t σ H fun vs H1 => r vs H1 Q) : tCB r t σ H Q := h
theorem r_lenL {p : Addr} {xs : List V} (hs : SqL K H p xs) (h : Q (.int xs.length) H) : rLenG K [.ref p] H Q := .inl ⟨p, xs, rfl, .inl hs, h⟩
theorem r_lenT {p : Addr} {xs : List V} (hs : SqT K H p xs) (h : Q (.int xs.length) H) : rLenG K [.ref p] H Q := .inl ⟨p, xs, rfl, .inr hs, h⟩
theorem r_lenS {a : List Nat} (hl : a.length ≤ sizeLine) (h : Q (.int a.length) H) : rLenG K [.str (S a)] H Q := .inr (.inl ⟨_, rfl, by rw [S_len]; exact hl, by rw [S_len]; exact h⟩)
theorem r_lenD {p : Addr} {kvs : List (Key × V)} (hs : H p = some (.dK kvs)) (h : Q (.int kvs.length) H) : rLenG K [.ref p] H Q := .inr (.inr ⟨p, kvs, rfl, hs, h⟩)
theorem r_listL {p : Addr} {xs : List V} (hs : SqL K H p xs) (h : Nw H (.lst xs) Q) : rListG K [.ref p] H Q := .inl ⟨p, xs, rfl, .inl hs, h.go⟩
theorem r_listD {p : Addr} {kvs : List (Key × V)} (hs : Rd H p (.dK kvs)) (h : Nw H (.lst (kvs.map fun kv => kV kv.1)) Q) : rListG K [.ref p] H Q := .inr ⟨p, kvs, rfl, hs, h.go⟩
theorem r_dictD {p : Addr} {kvs : List (Key × V)} (hs : Rd H p (.dK kvs)) (h : Nw H (.dK kvs) Q) : rDictD [.ref p] H Q := ⟨p, kvs, rfl, hs, h.go⟩
theorem r_isi {x : V} {t c : String} {b : Bool} (ty : TyX K H x (.type t)) (hb : kitB t c = some b) (h : Q (.bl b) H) : rIsi K [x, .ty c] H Q := ⟨x, _, _, _, b, rfl, .ty c, ty, kit_ty hb, h⟩
theorem r_is_int_int {i : Int} (h : Q (.bl true) H) : rIsi K [.int i, .ty "int"] H Q := r_isi (.base (.int _)) (t := "int") (by decide +kernel) h
theorem r_is_int_bool {i : Int} (h : Q (.bl false) H) : rIsi K [.int i, .ty "bool"] H Q := r_isi (.base (.int _)) (t := "int") (by decide +kernel) h
theorem r_is_int_str {i : Int} (h : Q (.bl false) H) : rIsi K [.int i, .ty "str"] H Q := r_isi (.base (.int _)) (t := "int") (by decide +kernel) h
theorem r_is_int_tuple {i : Int} (h : Q (.bl false) H) : rIsi K [.int i, .ty "tuple"] H Q := r_isi (.base (.int _)) (t := "int") (by decide +kernel) h
theorem r_is_int_list {i : Int} (h : Q (.bl false) H) : rIsi K [.int i, .ty "list"] H Q := r_isi (.base (.int _)) (t := "int") (by decide +kernel) h
theorem r_is_int_dict {i : Int} (h : Q (.bl false) H) : rIsi K [.int i, .ty "dict"] H Q := r_isi (.base (.int _)) (t := "int") (by decide +kernel) h
theorem r_is_str_int {z : Str} (h : Q (.bl false) H) : rIsi K [.str z, .ty "int"] H Q := r_isi (.base (.str _)) (t := "str") (by decide +kernel) h
theorem r_is_str_bool {z : Str} (h : Q (.bl false) H) : rIsi K [.str z, .ty "bool"] H Q := r_isi (.base (.str _)) (t := "str") (by decide +kernel) h
theorem r_is_str_str {z : Str} (h : Q (.bl true) H) : rIsi K [.str z, .ty "str"] H Q := r_isi (.base (.str _)) (t := "str") (by decide +kernel) h
theorem r_is_str_tuple {z : Str} (h : Q (.bl false) H) : rIsi K [.str z, .ty "tuple"] H Q := r_isi (.base (.str _)) (t := "str") (by decide +kernel) h
theorem r_is_str_list {z : Str} (h : Q (.bl false) H) : rIsi K [.str z, .ty "list"] H Q := r_isi (.base (.str _)) (t := "str") (by decide +kernel) h
theorem r_is_str_dict {z : Str} (h : Q (.bl false) H) : rIsi K [.str z, .ty "dict"] H Q := r_isi (.base (.str _)) (t := "str") (by decide +kernel) h
theorem r_is_bl_int {b : Bool} (h : Q (.bl true) H) : rIsi K [.bl b, .ty "int"] H Q := r_isi (.base (.bl _)) (t := "bool") (by decide +kernel) h
theorem r_is_bl_bool {b : Bool} (h : Q (.bl true) H) : rIsi K [.bl b, .ty "bool"] H Q := r_isi (.base (.bl _)) (t := "bool") (by decide +kernel) h
theorem r_is_bl_str {b : Bool} (h : Q (.bl false) H) : rIsi K [.bl b, .ty "str"] H Q := r_isi (.base (.bl _)) (t := "bool") (by decide +kernel) h
theorem r_is_bl_tuple {b : Bool} (h : Q (.bl false) H) : rIsi K [.bl b, .ty "tuple"] H Q := r_isi (.base (.bl _)) (t := "bool") (by decide +kernel) h
theorem r_is_bl_list {b : Bool} (h : Q (.bl false) H) : rIsi K [.bl b, .ty "list"] H Q := r_isi (.base (.bl _)) (t := "bool") (by decide +kernel) h
theorem r_is_bl_dict {b : Bool} (h : Q (.bl false) H) : rIsi K [.bl b, .ty "dict"] H Q := r_isi (.base (.bl _)) (t := "bool") (by decide +kernel) h
theorem r_is_non_int  (h : Q (.bl false) H) : rIsi K [.non, .ty "int"] H Q := r_isi (.base .non) (t := "NoneType") (by decide +kernel) h
theorem r_is_non_bool  (h : Q (.bl false) H) : rIsi K [.non, .ty "bool"] H Q := r_isi (.base .non) (t := "NoneType") (by decide +kernel) h
theorem r_is_non_str  (h : Q (.bl false) H) : rIsi K [.non, .ty "str"] H Q := r_isi (.base .non) (t := "NoneType") (by decide +kernel) h
theorem r_is_non_tuple  (h : Q (.bl false) H) : rIsi K [.non, .ty "tuple"] H Q := r_isi (.base .non) (t := "NoneType") (by decide +kernel) h
theorem r_is_non_list  (h : Q (.bl false) H) : rIsi K [.non, .ty "list"] H Q := r_isi (.base .non) (t := "NoneType") (by decide +kernel) h
theorem r_is_non_dict  (h : Q (.bl false) H) : rIsi K [.non, .ty "dict"] H Q := r_isi (.base .non) (t := "NoneType") (by decide +kernel) h
theorem r_is_lst_int {a : Addr} {xs : List V} (e : H a = some (.lst xs)) (h : Q (.bl false) H) : rIsi K [.ref a, .ty "int"] H Q := r_isi (.base (.lst e)) (t := "list") (by decide +kernel) h
theorem r_is_lst_str {a : Addr} {xs : List V} (e : H a = some (.lst xs)) (h : Q (.bl false) H) : rIsi K [.ref a, .ty "str"] H Q := r_isi (.base (.lst e)) (t := "list") (by decide +kernel) h
theorem r_is_lst_tuple {a : Addr} {xs : List V} (e : H a = some (.lst xs)) (h : Q (.bl false) H) : rIsi K [.ref a, .ty "tuple"] H Q := r_isi (.base (.lst e)) (t := "list") (by decide +kernel) h
theorem r_is_lst_list {a : Addr} {xs : List V} (e : H a = some (.lst xs)) (h : Q (.bl true) H) : rIsi K [.ref a, .ty "list"] H Q := r_isi (.base (.lst e)) (t := "list") (by decide +kernel) h
theorem r_is_lst_dict {a : Addr} {xs : List V} (e : H a = some (.lst xs)) (h : Q (.bl false) H) : rIsi K [.ref a, .ty "dict"] H Q := r_isi (.base (.lst e)) (t := "list") (by decide +kernel) h
theorem r_is_tup_int {a : Addr} {xs : List V} (e : H a = some (.tup xs)) (h : Q (.bl false) H) : rIsi K [.ref a, .ty "int"] H Q := r_isi (.base (.tup e)) (t := "tuple") (by decide +kernel) h
theorem r_is_tup_str {a : Addr} {xs : List V} (e : H a = some (.tup xs)) (h : Q (.bl false) H) : rIsi K [.ref a, .ty "str"] H Q := r_isi (.base (.tup e)) (t := "tuple") (by decide +kernel) h
theorem r_is_tup_tuple {a : Addr} {xs : List V} (e : H a = some (.tup xs)) (h : Q (.bl true) H) : rIsi K [.ref a, .ty "tuple"] H Q := r_isi (.base (.tup e)) (t := "tuple") (by decide +kernel) h
theorem r_is_tup_list {a : Addr} {xs : List V} (e : H a = some (.tup xs)) (h : Q (.bl false) H) : rIsi K [.ref a, .ty "list"] H Q := r_isi (.base (.tup e)) (t := "tuple") (by decide +kernel) h
theorem r_is_tup_dict {a : Addr} {xs : List V} (e : H a = some (.tup xs)) (h : Q (.bl false) H) : rIsi K [.ref a, .ty "dict"] H Q := r_isi (.base (.tup e)) (t := "tuple") (by decide +kernel) h
theorem r_is_dK_int {a : Addr} {kvs : List (Key × V)} (e : H a = some (.dK kvs)) (h : Q (.bl false) H) : rIsi K [.ref a, .ty "int"] H Q := r_isi (.base (.dK e)) (t := "dict") (by decide +kernel) h
theorem r_is_dK_str {a : Addr} {kvs : List (Key × V)} (e : H a = some (.dK kvs)) (h : Q (.bl false) H) : rIsi K [.ref a, .ty "str"] H Q := r_isi (.base (.dK e)) (t := "dict") (by decide +kernel) h
theorem r_is_dK_tuple {a : Addr} {kvs : List (Key × V)} (e : H a = some (.dK kvs)) (h : Q (.bl false) H) : rIsi K [.ref a, .ty "tuple"] H Q := r_isi (.base (.dK e)) (t := "dict") (by decide +kernel) h
theorem r_is_dK_list {a : Addr} {kvs : List (Key × V)} (e : H a = some (.dK kvs)) (h : Q (.bl false) H) : rIsi K [.ref a, .ty "list"] H Q := r_isi (.base (.dK e)) (t := "dict") (by decide +kernel) h
theorem r_is_dK_dict {a : Addr} {kvs : List (Key × V)} (e : H a = some (.dK kvs)) (h : Q (.bl true) H) : rIsi K [.ref a, .ty "dict"] H Q := r_isi (.base (.dK e)) (t := "dict") (by decide +kernel) h
theorem r_max2 {i j : Int} (h : Q (.int (max i j)) H) : rMax2 [.int i, .int j] H Q := ⟨i, j, rfl, by
  have e : (if j > i then j else i) = max i j := by
    by_cases q : j > i
    · rw [if_pos q]; omega
    · rw [if_neg q]; omega
  rw [e]; exact h⟩
theorem r_min2 {i j : Int} (h : Q (.int (min i j)) H) : rMin2 [.int i, .int j] H Q := ⟨i, j, rfl, by
  have e : (if j < i then j else i) = min i j := by
    by_cases q : j < i
    · rw [if_pos q]; omega
    · rw [if_neg q]; omega
  rw [e]; exact h⟩
theorem r_bm {T : String} {r : V → List V → Hp → VK → Prop} {t : TA} (h : te σ H fun x H1 => tyV K T x H1 ∧ t σ H1 fun xs H2 => r x xs H2 Q) : tBM K T r te t σ H Q := h
theorem r_bm0 {T : String} {r : V → List V → Hp → VK → Prop} (h : te σ H fun x H1 => tyV K T x H1 ∧ r x [] H1 Q) : tBM0 K T r te σ H Q := h
theorem r_tyL {p : Addr} {xs : List V} {P : Prop} (hs : SqL K H p xs) (h : P) : tyV K "list" (.ref p) H ∧ P := ⟨.inl ⟨rfl, xs, hs⟩, h⟩
theorem r_tyS {z : Str} {P : Prop} (h : P) : tyV K "str" (.str z) H ∧ P := ⟨rfl, h⟩
/-- what a store changes: p alone -/
def Chg (p : Addr) (o : HO) (H H' : Hp) : Prop := H' p = some o ∧ ∀ b u, b ≠ p → H b = some u → H' b = some u
theorem chg_upd {p : Addr} {o : HO} : Chg p o H (upd H p o) := ⟨upd_same, fun b u n e => by rw [upd_ne n]; exact e⟩
theorem r_append {p : Addr} {xs : List V} {y : V} (hs : H p = some (.lst xs)) (hl : xs.length < sizeLine) (h : ∀ H', Chg p (.lst (xs ++ [y])) H H' → Q .non H') : rAppend (.ref p) [y] H Q :=
  ⟨p, xs, y, rfl, rfl, hs, hl, h _ chg_upd⟩
/-! dicts -/
theorem r_dget {td ty : TE} (h : td σ H fun x H1 => ty σ H1 fun y H2 => ∃ a v, x = .ref a ∧ DGet H2 a y (some v) ∧ Q v H2) : tDGet td ty σ H Q := h
theorem r_dgetE {p : Addr} {kvs : List (Key × V)} {n : Int} {v : V} (hs : Rd H p (.dK kvs)) {P : V → Prop} (e : valV kvs (.inl n) = some v) (h : P v) : ∃ a v, V.ref p = .ref a ∧ DGet H a (.int n) (some v) ∧ P v :=
  ⟨p, v, rfl, .inl ⟨kvs, .inl n, hs, rfl, e.symm⟩, h⟩
theorem r_din {td ty : TE} (h : ty σ H fun y H1 => td σ H1 fun x H2 => ∃ a o, x = .ref a ∧ DGet H2 a y o ∧ Q (.bl o.isSome) H2) : tDIn ty td σ H Q := h
theorem r_dnotin {td ty : TE} (h : ty σ H fun y H1 => td σ H1 fun x H2 => ∃ a o, x = .ref a ∧ DGet H2 a y o ∧ Q (.bl (!o.isSome)) H2) : tDNotIn ty td σ H Q := h
theorem r_dinE {p : Addr} {kvs : List (Key × V)} {n : Int} {P : Option V → Prop} (hs : Rd H p (.dK kvs)) (h : P (valV kvs (.inl n))) : ∃ a o, V.ref p = .ref a ∧ DGet H a (.int n) o ∧ P o :=
  ⟨p, _, rfl, .inl ⟨kvs, .inl n, hs, rfl, rfl⟩, h⟩
theorem r_dput {td ty tv : TE} (h : tv σ H fun v H1 => td σ H1 fun x H2 => ty σ H2 fun y H3 => ∃ a H4, x = .ref a ∧ DPut H3 a y v H4 ∧ nx σ H4) : sDPut td ty tv ⟨nx, rt, bk, ct⟩ σ H := h
theorem r_dputE {p : Addr} {kvs : List (Key × V)} {n : Int} {v : V} {P : Hp → Prop} (hs : H p = some (.dK kvs)) (hl : kvs.length < sizeLine) (h : ∀ H', Chg p (.dK (putK kvs (.inl n) v)) H H' → P H') :
    ∃ a H4, V.ref p = .ref a ∧ DPut H a (.int n) v H4 ∧ P H4 := ⟨p, _, rfl, DPut.k (k := .inl n) hs hl, h _ chg_upd⟩
/-! fields, methods -/
theorem r_fld {f : Str} (h : ta σ H fun x H1 => ∃ a C dx fs v, x = .ref a ∧ H1 a = some (.ins C dx fs) ∧ Cls K C ∧ NoAttr K C f ∧ fs.lookup f = some v ∧ Q v H1) : tFld K ta f σ H Q := h
theorem r_meth {C : Addr} {m : Str} {sp : Sp} {E : XK} {t : TA} (h : ta σ H fun x H1 => ∃ a dx fs, x = .ref a ∧ H1 a = some (.ins C dx fs) ∧ fs.lookup m = none ∧ t σ H1 fun vs H2 => sp (x :: vs) H2 Q E) : tMeth C m sp [] E ta t σ H Q := by
  unfold tMeth
  simpa using h
/-! locks, loops, comprehensions -/
theorem same_trans {H1 H2 H3 : Hp} (a : Same H1 H2) (b : Same H2 H3) : Same H1 H3 := a.trans b
/-- a loop, a comprehension over what J walks -/
def ForG (J : It) (g : TG) (tb : TS) (nx : St → Hp → Prop) (rt : VK) (σ : St) (H : Hp) : Prop := ∃ W : Nat → Nat → St → Hp → Prop, (∃ m, W 0 m σ H) ∧ ∀ i m σ H, W i m σ H → (J.stop i H ∧ nx σ H) ∨ (J.go i H ∧ ∃ N : St → Hp → Prop, (∀ σ' H', N σ' H' → ∃ m', m' < m ∧ W (i + 1) m' σ' H') ∧
    ∀ x H', J.yld i H x H' → g x σ H' fun σ2 H2 => tb ⟨N, rt, nx, N⟩ σ2 H2)
def LcG (J : It) (k : Nat) (tt : TT) (te : TE) (σ : St) (Q : VK) (H1 : Hp) : Prop := ∀ D, H1 D = none → ∃ W : Nat → Nat → Hp → Prop, (∃ m, W 0 m (upd H1 D (.lst []))) ∧ ∀ i m H, W i m H →
  (J.stop i H ∧ Q (.ref D) H) ∨ (J.go i H ∧ ∃ Nx : Hp → Prop, (∀ H', Nx H' → ∃ m', m' < m ∧ W (i + 1) m' H') ∧ ∀ x H', J.yld i H x H' → gName k x (wipe σ [k]) H' fun σ2 H2 => wipe σ2 [k] = wipe σ [k] ∧ tt σ2 H2 fun b H3 =>
    if b = true then te σ2 H3 fun y H4 => ∃ acc, H4 D = some (.lst acc) ∧ acc.length < sizeLine ∧ Nx (upd H4 D (.lst (acc ++ [y]))) else Nx H3)
theorem r_for {wi : TI} {tb : TS} (h : wi σ H fun J H1 => ForG J g tb nx rt σ H1) : tFor wi g tb ⟨nx, rt, bk, ct⟩ σ H := h
theorem r_rng1 {t : TA} {R : It → Hp → Prop} (h : t σ H fun vs H1 => ∃ j : Int, vs = [.int j] ∧ -(2 ^ 62) ≤ j ∧ j < 2 ^ 62 ∧ R (Itr 0 j.toNat) H1) : iRng1 t σ H R := h
theorem r_rng1E {j : Int} {P : Int → Prop} (h1 : -(2 ^ 62) ≤ j ∧ j < 2 ^ 62) (h : P j) : ∃ j' : Int, [V.int j] = [.int j'] ∧ -(2 ^ 62) ≤ j' ∧ j' < 2 ^ 62 ∧ P j' := ⟨j, rfl, h1.1, h1.2, h⟩
theorem r_rng2 {t : TA} {R : It → Hp → Prop} (h : t σ H fun vs H1 => ∃ i j : Int, vs = [.int i, .int j] ∧ (-(2 ^ 62) ≤ i ∧ i < 2 ^ 62 ∧ -(2 ^ 62) ≤ j ∧ j < 2 ^ 62) ∧ R (Itr i (j - i).toNat) H1) : iRng2 t σ H R := h
theorem r_rng2E {i j : Int} {P : Int → Int → Prop} (h1 : -(2 ^ 62) ≤ i ∧ i < 2 ^ 62 ∧ -(2 ^ 62) ≤ j ∧ j < 2 ^ 62) (h : P i j) : ∃ i2 j2 : Int, [V.int i, V.int j] = [.int i2, .int j2] ∧ (-(2 ^ 62) ≤ i2 ∧ i2 < 2 ^ 62 ∧ -(2 ^ 62) ≤ j2 ∧ j2 < 2 ^ 62) ∧ P i2 j2 := ⟨i, j, rfl, h1, h⟩
theorem r_iList {R : It → Hp → Prop} (h : te σ H fun x H1 => ∃ a, x = .ref a ∧ (∃ xs, SqL K H1 a xs) ∧ R (Itl K a) H1) : iList K te σ H R := h
theorem r_iListE {a : Addr} {xs : List V} {P : Addr → Prop} (hs : SqL K H a xs) (h : P a) : ∃ a2, V.ref a = .ref a2 ∧ (∃ xs, SqL K H a2 xs) ∧ P a2 := ⟨a, rfl, ⟨xs, hs⟩, h⟩
theorem r_iKeys {R : It → Hp → Prop} (h : te σ H fun x H1 => ∃ d o, x = .ref d ∧ ((∃ kvs, H1 d = some (.frz o (.dK kvs)) ∧ R (Itk d o kvs) H1) ∨ ∃ kvs, H1 d = some (.frz o (.dT kvs)) ∧ R (Itkt d o kvs) H1)) : iKeys te σ H R := h
theorem r_iKeysE {d : Addr} {o : Obj} {kvs : List (Key × V)} {R : It → Hp → Prop} (hs : H d = some (.frz o (.dK kvs))) (h : R (Itk d o kvs) H) :
    ∃ d2 o2, V.ref d = .ref d2 ∧ ((∃ kvs, H d2 = some (.frz o2 (.dK kvs)) ∧ R (Itk d2 o2 kvs) H) ∨ ∃ kvs, H d2 = some (.frz o2 (.dT kvs)) ∧ R (Itkt d2 o2 kvs) H) := ⟨d, o, rfl, .inl ⟨kvs, hs, h⟩⟩
theorem r_rev {p : Addr} {xs : List V} (hs : H p = some (.lst xs)) (h : ∀ H', Chg p (.lst xs.reverse) H H' → Q .non H') : rReverse (.ref p) [] H Q := ⟨p, xs, rfl, rfl, hs, h _ chg_upd⟩
theorem r_lc {wi : TI} {k : Nat} (h : wi σ H fun J H1 => LcG J k tt te σ Q H1) : tLc wi (gName k) tt te [k] σ H Q := h
end

/-! ### loops and comprehensions by what is walked -/
section
variable {nx : St → Hp → Prop} {rt : VK} {bk ct : St → Hp → Prop} {σ : St} {H : Hp} {te : TE} {g : TG} {tt : TT} {Q : VK} {J : It} {n : Nat} {G : Hp → Prop} {Y : Nat → Hp → V → Hp → Prop} {tb : TS}
theorem for_go (w : Walk J n G Y) (Pv : Nat → St → Hp → Prop) (h0 : Pv 0 σ H) (hG : ∀ i σ H, i ≤ n → Pv i σ H → G H)
    (hs : ∀ i x σ H H', i < n → Pv i σ H → Y i H x H' → g x σ H' fun σ2 H2 => tb ⟨Pv (i + 1), rt, nx, Pv (i + 1)⟩ σ2 H2) (hd : ∀ σ H, Pv n σ H → nx σ H) :
    ForG J g tb nx rt σ H := for_it w (D := ⟨nx, rt, fun _ _ => False, fun _ _ => False⟩) Pv h0 hG hs hd
theorem walk_rng {lo : Int} {n : Nat} : Walk (Itr lo n) n (fun _ => True) (fun i H x H' => H' = H ∧ x = .int (lo + i)) := walk_range.mono (fun _ h => h) fun i H x H' _ _ y => y
theorem walk_rng0 {n : Nat} : Walk (Itr 0 n) n (fun _ => True) (fun i H x H' => H' = H ∧ x = .int i) := walk_range.mono (fun _ h => h) fun i H x H' _ _ y => ⟨y.1, by rw [y.2]; show V.int (0 + (i : Int)) = V.int i; rw [Int.zero_add]⟩
theorem r_yes {QB : Bool → Hp → Prop} (h : QB true H) : tYes σ H QB := h
/-- what holds of a comprehension's list so far -/
def LcI (Pv : Addr → Nat → List V → Hp → Prop) (D : Addr) (i : Nat) (H : Hp) : Prop := ∃ acc, acc.length ≤ i ∧ H D = some (.lst acc) ∧ Pv D i acc H
theorem lc_go (w : Walk J n G Y) (hn : n ≤ 1000000) {k : Nat} (Pv : Addr → Nat → List V → Hp → Prop) (h0 : ∀ D H2, H D = none → Same H H2 → H2 D = some (.lst []) → Pv D 0 [] H2)
    (hG : ∀ D i acc H, i ≤ n → Pv D i acc H → G H)
    (hs : ∀ D i x acc H H', i < n → acc.length ≤ i → H D = some (.lst acc) → Pv D i acc H → Y i H x H' → gName k x σ H' fun σ2 H2 => tt σ2 H2 fun b H3 =>
      if b = true then te σ2 H3 fun y H4 => ∃ acc, H4 D = some (.lst acc) ∧ acc.length < sizeLine ∧ LcI Pv D (i + 1) (upd H4 D (.lst (acc ++ [y]))) else LcI Pv D (i + 1) H3)
    (hd : ∀ D acc H, Pv D n acc H → H D = some (.lst acc) → Q (.ref D) H) :
    LcG J k tt te σ Q H := by
  intro D hD
  refine lc_it w (Qd := fun H => Q (.ref D) H) (fun i H => LcI Pv D i H) ⟨[], Nat.le_refl _, upd_same, h0 D _ hD (same_new hD) upd_same⟩ (fun i H hi ⟨acc, _, _, p⟩ => hG D i acc H hi p) ?_ (fun H ⟨acc, _, e, p⟩ => hd D acc H p e)
  rintro i x H1 H' hi ⟨acc, ha, e, p⟩ y
  have e1 : (wipe σ [k]).set k (some x) = σ.set k (some x) := by
    show (σ.set k none).set k (some x) = σ.set k (some x)
    rw [List.set_set]
  have e2 : wipe (σ.set k (some x)) [k] = wipe σ [k] := by
    show (σ.set k (some x)).set k none = σ.set k none
    rw [List.set_set]
  show wipe ((wipe σ [k]).set k (some x)) [k] = wipe σ [k] ∧ tt ((wipe σ [k]).set k (some x)) H' _
  rw [e1]
  exact ⟨e2, hs D i x acc H1 H' hi ha e p y⟩
theorem lc_end {Pv : Addr → Nat → List V → Hp → Prop} {D : Addr} {i : Nat} {acc : List V} {y : V} (ha : acc.length ≤ i) (hi : i < 1000000) (e : H D = some (.lst acc))
    (h : ∀ H5, Chg D (.lst (acc ++ [y])) H H5 → Pv D (i + 1) (acc ++ [y]) H5) : ∃ acc, H D = some (.lst acc) ∧ acc.length < sizeLine ∧ LcI Pv D (i + 1) (upd H D (.lst (acc ++ [y]))) :=
  ⟨acc, e, by rw [sizeLine_eq]; omega, acc ++ [y], by rw [List.length_append]; show acc.length + 1 ≤ i + 1; omega, upd_same, h _ chg_upd⟩
theorem lc_not {Pv : Addr → Nat → List V → Hp → Prop} {D : Addr} {i : Nat} {acc : List V} (ha : acc.length ≤ i) (e : H D = some (.lst acc)) (h : Pv D (i + 1) acc H) : LcI Pv D (i + 1) H := ⟨acc, by omega, e, h⟩
/-- a while -/
theorem r_while {c : TT} (Pv : St → Hp → Prop) (μ : St → Hp → Nat) (h0 : Pv σ H)
    (hs : ∀ σ H, Pv σ H → c σ H fun b H1 => if b = true then ∃ N : St → Hp → Prop, (∀ σ' H', N σ' H' → ∃ m', m' < μ σ H ∧ (m' = μ σ' H' ∧ Pv σ' H')) ∧ tb ⟨N, rt, nx, N⟩ σ H1 else nx σ H1) : tWhile c tb ⟨nx, rt, bk, ct⟩ σ H := by
  refine ⟨fun m σ H => m = μ σ H ∧ Pv σ H, ⟨_, rfl, h0⟩, ?_⟩
  rintro m σ H ⟨rfl, p⟩
  exact hs σ H p
theorem wh_body {Pv : St → Hp → Prop} {μ : St → Hp → Nat} {m : Nat} {H1 : Hp} (h : tb ⟨fun σ' H' => Pv σ' H' ∧ μ σ' H' < m, rt, nx, fun σ' H' => Pv σ' H' ∧ μ σ' H' < m⟩ σ H1) :
    ∃ N : St → Hp → Prop, (∀ σ' H', N σ' H' → ∃ m', m' < m ∧ (m' = μ σ' H' ∧ Pv σ' H')) ∧ tb ⟨N, rt, nx, N⟩ σ H1 := ⟨_, fun σ' H' h => ⟨_, h.2, rfl, h.1⟩, h⟩
end
/-! ### the steps by their heads -/
/-- a fact of an elder heap, in the newest -/
theorem sm_of {H H' : Hp} {a : Addr} {o : HO} (s : Same H H') (h : H a = some o) : H' a = some o := s a o h
theorem sm_chg {H H1 H2 : Hp} {D : Addr} {o : HO} (s : Same H H1) (h : H D = none) (c : Chg D o H1 H2) : Same H H2 := fun b u e => c.2 b u (ne_of_none e h) (s b u e)
theorem sm_tup {K : PySem.W.Frag} {H H' : Hp} {a : Addr} {xs : List V} (e : Same H H') (h : SqT K H a xs) : SqT K H' a xs := by
  rcases h with (h | ⟨o, h⟩) | h
  · exact .inl (.inl (e _ _ h))
  · exact .inl (.inr ⟨o, e _ _ h⟩)
  · exact .inr h
theorem sm_rd {H H' : Hp} {a : Addr} {u : HO} (e : Same H H') (h : Rd H a u) : Rd H' a u := by
  rcases h with h | ⟨o, h⟩
  · exact .inl (e _ _ h)
  · exact .inr ⟨o, e _ _ h⟩
end Pk
namespace Pk
open PySem PySem.Spec L2
/-- a def of the module's top, called by its name -/
structure FnAt (P : Program) (w : World) (K : PySem.W.Frag) (mg : Str → Option Value) (base : Heap) (x : Str) (k : Nat) (ps : List Str) (sp : Sp) (f : Addr) (fd : FuncData) : Prop where
  ok : FnOk P w K mg base (L2.CX P w) k f fd ps sp
  mg : mg x = some (.ref f)
  kp : PySem.W.keepIn K (.ref f) = true
  b : Binds K fd ps []
/-- a method of the class at C -/
structure MeAt (P : Program) (w : World) (K : PySem.W.Frag) (mg : Str → Option Value) (base : Heap) (C : Addr) (m : Str) (k : Nat) (ps : List Str) (sp : Sp) (f : Addr) (fd : FuncData) : Prop where
  ok : FnOk P w K mg base (L2.CX P w) k f fd ps sp
  mt : Meth K C m f
  b : Binds K fd ps []
/-- the class's __init__ -/
structure MeI (P : Program) (w : World) (K : PySem.W.Frag) (mg : Str → Option Value) (base : Heap) (C : Addr) (k : Nat) (ps : List Str) (sp : Sp) (f : Addr) (fd : FuncData) : Prop where
  ok : FnOk P w K mg base (L2.CX P w) k f fd ps sp
  b : Binds K fd ps []
theorem cx_no {P : Program} {w : World} {outer : List Env} {H : Hp} {s : Shared} {e : Value} {s2 : Shared} (h : L2.CX P w outer H s (fun _ _ _ => False) e s2) : False := by
  obtain ⟨_, _, _, _, _, _, _, _, _, _, _, _, z⟩ := h
  exact z
/-- what a raised own class must say -/
structure ExAt (K : PySem.W.Frag) (mg : Str → Option Value) (x : Str) (C : Addr) : Prop where
  mg : mg x = some (.ref C)
  x : PySem.W.excIn K C He.veBase "ValueError.__new__" = true
  k : PySem.W.keepIn K (.ref C) = true
  b : PySem.W.subIn K (.ref C) (.type "BaseException") = some true
  t : PySem.W.typeIn K (.ref C) = some (.type "type")
/-- the facts of the head, and one more of one's own -/
def hookP (n : Nat) (fa : List He.Fa) (fn : List He.DefD) (ex : PySem.W.Frag → Bool) : PySem.W.Hook where
  α := He.AlD × Bool
  obs := fun s => (He.obsDG n fa fn s.heap.get?, ex (He.frG s.heap.get? (He.asD s.heap.get? n)))
  val := fun _ => (He.valD fn, true)
  says := fun _ h => ∃ K : PySem.W.Frag, K.In h ∧ He.SaysD fa fn K ∧ ex K = true
  of := fun _ _ e => ⟨_, He.frG_in, congrArg Prod.fst e, congrArg Prod.snd e⟩
  keeps := fun _ _ _ ⟨K, hK, c⟩ k => ⟨K, PySem.W.Frag.In.keeps hK k, c⟩
def obsP (n : Nat) (fa : List He.Fa) (fn : List He.DefD) (ex : PySem.W.Frag → Bool) (g : Addr → Option Obj) : He.AlD × Bool := (He.obsDG n fa fn g, ex (He.frG g (He.asD g n)))
theorem obsP_eq {n : Nat} {fa : List He.Fa} {fn : List He.DefD} {ex : PySem.W.Frag → Bool} {g : Addr → Option Obj} {s : Shared} (h : ∀ a, g a = s.heap.get? a) : obsP n fa fn ex g = (hookP n fa fn ex).obs s := by
  have e : g = s.heap.get? := funext h
  rw [e]
  rfl
end Pk
/-! PkM: the mathematics, and facts of the slots and heaps that several defs share. -/
namespace Pk
open PySem PySem.Spec L2
/-- where a change fits -/
def Fits (z : List Nat) (at_ : Int) (gone : List Nat) : Prop := 0 ≤ at_ ∧ at_ + gone.length ≤ z.length ∧ cutL z (some at_) (some (at_ + gone.length)) = gone
def doneL (z : List Nat) (at_ : Int) (gone come : List Nat) : List Nat := cutL z none (some at_) ++ come ++ cutL z (some (at_ + gone.length)) none
/-- a text of at most n signs -/
def Tx (n : Nat) (l : List Nat) : Prop := l.length ≤ n ∧ Ok l
theorem Tx.mono {n m : Nat} {l : List Nat} (h : Tx n l) (e : n ≤ m) : Tx m l := ⟨by have := h.1; omega, h.2⟩
theorem Tx.app {n m : Nat} {a b : List Nat} (h : Tx n a) (g : Tx m b) : Tx (n + m) (a ++ b) := ⟨by rw [List.length_append]; have := h.1; have := g.1; omega, fun c hc => (List.mem_append.mp hc).elim (h.2 c) (g.2 c)⟩
theorem Tx.sub {n : Nat} {a b : List Nat} (h : Tx n b) (s : a.Sublist b) : Tx n a := ⟨by have := h.1; have := s.length_le; omega, fun c hc => h.2 c (s.subset hc)⟩
theorem Tx.take {n : Nat} {a : List Nat} (h : Tx n a) (k : Nat) : Tx n (a.take k) := h.sub (List.take_sublist k a)
theorem Tx.drop {n : Nat} {a : List Nat} (h : Tx n a) (k : Nat) : Tx n (a.drop k) := h.sub (List.drop_sublist k a)
theorem Tx.cut {n : Nat} {a : List Nat} (h : Tx n a) (lo hi : Option Int) : Tx n (cutL a lo hi) := (h.drop _).take _
theorem strOk_of {l : List Nat} (h : Ok l) : PyData.strOk (S l) = true := by
  unfold PyData.strOk
  rw [Array.all_eq_true]
  intro i hi
  exact decide_eq_true (h _ (by simp))
theorem dp_i (K : PySem.W.Frag) (H : Hp) (i : Int) : Dp K H (.int i) (.int i) := .int i
/-- a change as data -/
abbrev chD (i : Int) (a b : List Nat) : PyData := .tuple [.int i, .str (S a), .str (S b)]
theorem chD_dp {K : PySem.W.Frag} {H : Hp} {t : Addr} {i : Int} {a b : List Nat} (h : H t = some (.tup [.int i, .str (S a), .str (S b)])) : Dp K H (.ref t) (chD i a b) := .tup (.of h) (.cons (.int i) (.cons (.str _) (.cons (.str _) .nil)))
theorem chD_lay {i : Int} {a b : List Nat} (ha : Ok a) (hb : Ok b) : (chD i a b).canLay0 = true := by
  simp [chD, PyData.canLay0, PyData.canLayAll0, strOk_of ha, strOk_of hb]
theorem chD_shaped {i : Int} {a b : List Nat} (ha : Ok a) (hb : Ok b) : SeqAt.shaped (chD i a b) = true := by
  unfold SeqAt.shaped
  rw [chD_lay ha hb]
  rfl
theorem r_eqSame {K : PySem.W.Frag} {H : Hp} {Q : VK} {x y : V} (d : PyData) (h1 : Dp K H x d) (h2 : Dp K H y d) (s : SeqAt.shaped d = true) (h : Q (.bl true) H) : rEqG K x y H Q :=
  r_eqD d d h1 h2 s s (by rw [SeqAt.eqv_refl d (SeqAt.canLay_of_shaped s)]; exact h)
theorem r_neSame {K : PySem.W.Frag} {H : Hp} {Q : VK} {x y : V} (d : PyData) (h1 : Dp K H x d) (h2 : Dp K H y d) (s : SeqAt.shaped d = true) (h : Q (.bl false) H) : rNeG K x y H Q :=
  r_neD d d h1 h2 s s (by rw [SeqAt.eqv_refl d (SeqAt.canLay_of_shaped s)]; exact h)
theorem cutL_len (z : List Nat) (lo hi : Option Int) : (cutL z lo hi).length ≤ z.length := by
  unfold cutL
  rw [List.length_take, List.length_drop]
  omega
theorem cutL_nn (z : List Nat) (i j : Nat) : cutL z (some (i : Int)) (some (j : Int)) = (z.drop i).take (j - i) := by
  unfold cutL
  rw [HT.sIx_nat, HT.sIx_nat]
  by_cases h : i ≤ z.length
  · rw [Nat.min_eq_left h]
    by_cases h2 : j ≤ z.length
    · rw [Nat.min_eq_left h2]
    · rw [Nat.min_eq_right (show z.length ≤ j by omega), List.take_of_length_le (by rw [List.length_drop]; omega), List.take_of_length_le (by rw [List.length_drop]; omega)]
  · rw [Nat.min_eq_right (show z.length ≤ i by omega), List.drop_eq_nil_of_le (Nat.le_refl z.length), List.drop_eq_nil_of_le (show z.length ≤ i by omega)]
    simp
theorem cutL_to (z : List Nat) (j : Nat) : cutL z none (some (j : Int)) = z.take j := by
  unfold cutL
  rw [HT.sIx_nat, HT.sIx_none, List.drop_zero, Nat.sub_zero]
  by_cases h : j ≤ z.length
  · rw [Nat.min_eq_left h]
  · rw [Nat.min_eq_right (show z.length ≤ j by omega), List.take_of_length_le (Nat.le_refl _), List.take_of_length_le (show z.length ≤ j by omega)]
theorem cutL_from (z : List Nat) (i : Nat) : cutL z (some (i : Int)) none = z.drop i := by
  unfold cutL
  rw [HT.sIx_nat, HT.sIx_none]
  by_cases h : i ≤ z.length
  · rw [Nat.min_eq_left h, List.take_of_length_le (by rw [List.length_drop]; omega)]
  · rw [Nat.min_eq_right (show z.length ≤ i by omega), List.drop_eq_nil_of_le (Nat.le_refl z.length), List.drop_eq_nil_of_le (show z.length ≤ i by omega)]
    simp
theorem fits_of {p gone s : List Nat} : Fits (p ++ gone ++ s) (p.length : Int) gone := by
  refine ⟨by omega, by simp only [List.length_append]; omega, ?_⟩
  rw [show ((p.length : Int) + (gone.length : Int)) = ((p.length + gone.length : Nat) : Int) by omega, cutL_nn, List.append_assoc, List.drop_left, Nat.add_sub_cancel_left, List.take_left]
theorem fits_split {z gone : List Nat} {at_ : Int} (h : Fits z at_ gone) : ∃ p s, z = p ++ gone ++ s ∧ at_ = (p.length : Int) := by
  obtain ⟨h1, h2, h3⟩ := h
  obtain ⟨k, rfl⟩ : ∃ k : Nat, at_ = k := ⟨at_.toNat, by omega⟩
  rw [show ((k : Int) + (gone.length : Int)) = ((k + gone.length : Nat) : Int) by omega, cutL_nn, Nat.add_sub_cancel_left] at h3
  refine ⟨z.take k, (z.drop k).drop gone.length, ?_, by rw [List.length_take]; omega⟩
  have e : z.drop k = gone ++ (z.drop k).drop gone.length := by
    conv => lhs; rw [← List.take_append_drop gone.length (z.drop k), h3]
  rw [List.append_assoc, ← e, List.take_append_drop]
theorem done_of {p gone s come : List Nat} : doneL (p ++ gone ++ s) (p.length : Int) gone come = p ++ come ++ s := by
  unfold doneL
  rw [show ((p.length : Int) + (gone.length : Int)) = ((p.length + gone.length : Nat) : Int) by omega, cutL_to, cutL_from]
  rw [show (p ++ gone ++ s).take p.length = p by rw [List.append_assoc, List.take_left]]
  rw [show (p ++ gone ++ s).drop (p.length + gone.length) = s by rw [← List.length_append, List.drop_left]]
def cellAt (ns : List Int) (k : Int) : Int := ns.getD k.toNat 0
/-! ### bases: dicts from numbers to numbers or None -/
def obV : Option Int → V
  | none => .non
  | some b => .int b
def bK (lv : List (Int × Option Int)) : List (Key × V) := lv.map fun p => (.inl p.1, obV p.2)
def look {β : Type} (lv : List (Int × β)) (n : Int) : Option β := (lv.find? fun p => decide (p.1 = n)).map Prod.snd
theorem look_nil {β : Type} (n : Int) : look ([] : List (Int × β)) n = none := rfl
theorem look_cons {β : Type} (a : Int) (b : β) (r : List (Int × β)) (n : Int) : look ((a, b) :: r) n = if a = n then some b else look r n := by
  unfold look
  rw [List.find?_cons]
  by_cases h : a = n
  · simp [h]
  · simp [h]
theorem look_app {β : Type} (n : Int) : ∀ l m : List (Int × β), look (l ++ m) n = (look l n).or (look m n)
  | [], m => rfl
  | (a, b) :: r, m => by
    rw [List.cons_append, look_cons, look_cons]
    by_cases h : a = n
    · rw [if_pos h, if_pos h]; rfl
    · rw [if_neg h, if_neg h]; exact look_app n r m
theorem look_mem {β : Type} {n : Int} {b : β} : ∀ {l : List (Int × β)}, look l n = some b → (n, b) ∈ l
  | [], h => by cases h
  | (a, c) :: r, h => by
    rw [look_cons] at h
    by_cases e : a = n
    · rw [if_pos e] at h
      cases h; subst e; exact List.mem_cons_self
    · rw [if_neg e] at h
      exact List.mem_cons_of_mem _ (look_mem h)
theorem look_of_mem {β : Type} {n : Int} {b : β} : ∀ {l : List (Int × β)}, (l.map Prod.fst).Nodup → (n, b) ∈ l → look l n = some b
  | [], _, h => by cases h
  | (a, c) :: r, nd, h => by
    rw [List.map_cons, List.nodup_cons] at nd
    rw [look_cons]
    rcases List.mem_cons.mp h with e | h
    · cases e; rw [if_pos rfl]
    · rw [if_neg (fun e => nd.1 (by subst e; exact List.mem_map.mpr ⟨_, h, rfl⟩))]
      exact look_of_mem nd.2 h
theorem look_none {β : Type} {n : Int} : ∀ {l : List (Int × β)}, look l n = none ↔ n ∉ l.map Prod.fst
  | [] => by simp [look_nil]
  | (a, c) :: r => by
    rw [look_cons, List.map_cons, List.mem_cons]
    by_cases e : a = n
    · rw [if_pos e]; subst e; simp
    · rw [if_neg e, look_none]
      exact ⟨fun h z => z.elim (fun q => e q.symm) h, fun h z => h (.inr z)⟩
theorem bK_val (lv : List (Int × Option Int)) (n : Int) : valV (bK lv) (.inl n) = (look lv n).map obV := by
  induction lv with
  | nil => rfl
  | cons p r ih =>
    obtain ⟨a, b⟩ := p
    rw [look_cons]
    unfold valV bK at *
    rw [List.map_cons, List.find?_cons]
    by_cases h : a = n
    · subst h; simp
    · have e : decide ((Sum.inl a : Key) = Sum.inl n) = false := decide_eq_false fun q => h (Sum.inl.inj q)
      rw [if_neg h]
      simp only [e]
      exact ih
theorem bK_keys (lv : List (Int × Option Int)) : (bK lv).map (·.1) = (lv.map Prod.fst).map Sum.inl := by
  unfold bK
  rw [List.map_map, List.map_map]
  rfl
theorem bK_put {lv : List (Int × Option Int)} {n : Int} {b : Option Int} (h : look lv n = none) : putK (bK lv) (.inl n) (obV b) = bK (lv ++ [(n, b)]) := by
  rw [putK_new _ (by rw [bK_val, h]; rfl)]
  unfold bK
  rw [List.map_append]
  rfl
theorem bK_len (lv : List (Int × Option Int)) : (bK lv).length = lv.length := List.length_map _
/-- a version's chain -/
inductive Ch (lv : List (Int × Option Int)) : Int → List Int → Prop
  | whole {n : Int} : look lv n = some none → Ch lv n [n]
  | lean {n b : Int} {c : List Int} : look lv n = some (some b) → Ch lv b c → Ch lv n (n :: c)
theorem Ch.inj {lv : List (Int × Option Int)} {n : Int} {c d : List Int} (h : Ch lv n c) (g : Ch lv n d) : c = d := by
  induction h generalizing d with
  | whole e => cases g with
    | whole _ => rfl
    | lean e2 _ => rw [e] at e2; cases e2
  | lean e _ ih => cases g with
    | whole e2 => rw [e] at e2; cases e2
    | lean e2 g2 => rw [e] at e2; cases e2; rw [ih g2]
theorem Ch.look {lv : List (Int × Option Int)} {n : Int} {c : List Int} (h : Ch lv n c) : ∃ o, Pk.look lv n = some o := by
  cases h with
  | whole e => exact ⟨_, e⟩
  | lean e _ => exact ⟨_, e⟩
theorem Ch.head {lv : List (Int × Option Int)} {n : Int} {c : List Int} (h : Ch lv n c) : ∃ r, c = n :: r := by
  cases h with
  | whole e => exact ⟨_, rfl⟩
  | lean e _ => exact ⟨_, rfl⟩
theorem Ch.at {lv : List (Int × Option Int)} {n : Int} {c : List Int} (h : Ch lv n c) : ∀ (i : Nat) (x : Int), c[i]? = some x → Pk.look lv x = some c[i + 1]? := by
  induction h with
  | whole e =>
    intro i x q
    cases i with
    | zero => cases q; exact e
    | succ i => simp at q
  | @lean n b c e hb ih =>
    intro i x q
    cases i with
    | zero =>
      cases q
      obtain ⟨r, rfl⟩ := hb.head
      exact e
    | succ i => exact ih i x q
/-- each chain ends; r bounds how long it is -/
def Wood (lv : List (Int × Option Int)) (rk : Int → Nat) : Prop := ∀ n b, look lv n = some (some b) → (look lv b).isSome ∧ rk b < rk n
theorem Wood.ch {lv : List (Int × Option Int)} {rk : Int → Nat} (w : Wood lv rk) : ∀ (k : Nat) (n : Int), rk n ≤ k → (look lv n).isSome → ∃ c, Ch lv n c ∧ c.length ≤ rk n + 1
  | k, n, hk, h => by
    cases e : look lv n with
    | none => rw [e] at h; cases h
    | some o =>
      cases o with
      | none => exact ⟨[n], .whole e, by show 1 ≤ rk n + 1; omega⟩
      | some b =>
        obtain ⟨h1, h2⟩ := w n b e
        cases k with
        | zero => omega
        | succ k =>
          obtain ⟨c, hc, hl⟩ := Wood.ch w k b (by omega) h1
          exact ⟨n :: c, .lean e hc, by rw [List.length_cons]; omega⟩

theorem menu2 {x y : V} {i : Int} (h : 0 ≤ i ∧ i < 2) : ∃ v, atI [x, y] i = some v ∧ (v = x ∨ v = y) := by
  have h : i = 0 ∨ i = 1 := by omega
  rcases h with rfl | rfl
  · exact ⟨x, rfl, .inl rfl⟩
  · exact ⟨y, rfl, .inr rfl⟩
/-- wood as a law builds it: names f, the k-th leans on one ahead -/
theorem wood_of {many : Nat} {f : Nat → Int} {bl : List (Option Int)} {os : List Nat} (hm : many ≤ 31) (inj : ∀ j k, j < 31 → k < 31 → f j = f k → j = k) (hb : bl.length = many)
    (hlow : ∀ k b, bl[k]? = some (some b) → ∃ j, j < k ∧ b = f j) (ho : ∀ k, k ∈ os ↔ k < many) (nd : os.Nodup) :
    ((os.map fun k => (f k, bl.getD k none)).map Prod.fst).Nodup ∧ ∃ rk : Int → Nat, Wood (os.map fun k => (f k, bl.getD k none)) rk ∧ ∀ n, rk n ≤ 30 := by
  have hnd : ((os.map fun k => (f k, bl.getD k none)).map Prod.fst).Nodup := by
    rw [List.map_map]
    have e : (Prod.fst ∘ fun k => (f k, bl.getD k none)) = f := rfl
    rw [e]
    refine List.Pairwise.map f (fun j k h q => h.2.2 (inj j k h.1 h.2.1 q)) (R := fun j k => j < 31 ∧ k < 31 ∧ j ≠ k) ?_
    have h1 : os.Pairwise fun j k => j ≠ k := nd
    refine List.Pairwise.imp_of_mem ?_ h1
    intro j k hj hk h
    exact ⟨by have := (ho j).mp hj; omega, by have := (ho k).mp hk; omega, h⟩
  refine ⟨hnd, fun n => ((List.range 31).find? fun k => decide (f k = n)).getD 0, ?_, ?_⟩
  · have rkf : ∀ k, k < 31 → ((List.range 31).find? fun j => decide (f j = f k)).getD 0 = k := fun k hk => by
      cases e : (List.range 31).find? fun j => decide (f j = f k) with
      | none => exact absurd (List.find?_eq_none.mp e k (List.mem_range.mpr hk)) (by simp)
      | some j =>
        have h1 := List.find?_some e
        have h2 := List.mem_of_find?_eq_some e
        exact inj j k (List.mem_range.mp h2) hk (of_decide_eq_true h1)
    intro n b h
    obtain ⟨k, hk, e⟩ := List.mem_map.mp (look_mem h)
    injection e with e1 e2
    subst e1
    have hk2 := (ho k).mp hk
    obtain ⟨j, hj, rfl⟩ := hlow k b (by rw [List.getElem?_eq_getElem (by omega)]; rw [List.getD_eq_getElem?_getD, List.getElem?_eq_getElem (by omega)] at e2; exact congrArg some e2)
    have hjm : j ∈ os := (ho j).mpr (by omega)
    refine ⟨?_, ?_⟩
    · rw [look_of_mem hnd (List.mem_map.mpr ⟨j, hjm, rfl⟩)]; rfl
    · show ((List.range 31).find? fun i => decide (f i = f j)).getD 0 < ((List.range 31).find? fun i => decide (f i = f k)).getD 0
      rw [rkf j (by omega), rkf k (by omega)]
      exact hj
  · intro n
    show ((List.range 31).find? fun k => decide (f k = n)).getD 0 ≤ 30
    cases e : (List.range 31).find? fun j => decide (f j = n) with
    | none => exact Nat.zero_le _
    | some j =>
      have := List.mem_range.mp (List.mem_of_find?_eq_some e)
      show j ≤ 30
      omega

/-! ### data: lists of numbers, dicts of bases -/
abbrev inD (c : List Int) : PyData := .list (c.map PyData.int)
theorem ins_dp {K : PySem.W.Frag} {H : Hp} : ∀ c : List Int, DpAll K H (c.map V.int) (c.map PyData.int)
  | [] => .nil
  | i :: r => .cons (.int i) (ins_dp r)
theorem inD_dp {K : PySem.W.Frag} {H : Hp} {p : Addr} {c : List Int} (h : SqL K H p (c.map V.int)) : Dp K H (.ref p) (inD c) := .lst h (ins_dp c)
theorem ins_lay : ∀ c : List Int, PyData.canLayAll0 (c.map PyData.int) = true
  | [] => rfl
  | i :: r => by
    rw [List.map_cons, PyData.canLayAll0, ins_lay r]
    rfl
theorem ins_depth : ∀ c : List Int, PyData.depthAll (c.map PyData.int) ≤ 1
  | [] => by decide
  | i :: r => by
    have := ins_depth r
    rw [List.map_cons, PyData.depthAll]
    have e : (PyData.int i).depth ≤ 1 := by rw [PyData.depth]; decide
    omega
theorem inD_shaped (c : List Int) : SeqAt.shaped (inD c) = true := by
  unfold SeqAt.shaped inD
  rw [PyData.canLay0, ins_lay, PyData.depth]
  have := ins_depth c
  simp
  omega
theorem bK_list (lv : List (Int × Option Int)) : ((bK lv).map fun kv => kV kv.1) = (lv.map Prod.fst).map V.int := by
  unfold bK
  rw [List.map_map, List.map_map]
  rfl
theorem obV_flat (o : Option Int) : flatB (obV o) = true := by cases o <;> rfl
theorem r_neB {K : PySem.W.Frag} {H : Hp} {Q : VK} {p q : Addr} {lv : List (Int × Option Int)} (hp : H p = some (.dK (bK lv))) (hq : H q = some (.dK (bK lv))) (nd : (lv.map Prod.fst).Nodup) (h : Q (.bl false) H) : rNeG K (.ref p) (.ref q) H Q := by
  refine .inr (.inr ⟨p, q, _, _, rfl, rfl, hp, hq, rfl, fun kv hkv => ?_, h⟩)
  obtain ⟨⟨n, o⟩, hm, rfl⟩ := List.mem_map.mp hkv
  exact ⟨by rw [bK_val, look_of_mem nd hm]; rfl, obV_flat o⟩
end Pk
open PySem PySem.Spec L2 Pk
open C8 (tCut pss_cut)

local macro_rules | `(tactic| walk_at "hp") => `(tactic| (first
  | assumption
  | (exact SqL.of (by assumption)) | (exact SqT.of (by assumption)) | (exact Rd.of (by assumption))
  | (exact sm_of (by assumption) (by assumption))
  | ((with_reducible apply sm_of); assumption; walk_at "hp")
  | ((with_reducible apply Same.seq); assumption; walk_at "hp")
  | ((with_reducible apply sm_tup); assumption; walk_at "hp")
  | ((with_reducible apply sm_rd); assumption; walk_at "hp"))) 
local macro_rules | `(tactic| walk_at "hq") => `(tactic| (first | walk_at "hp" | (solve_by_elim (maxDepth := 8) [Same.seq, sm_of, sm_tup, sm_rd, SqL.of, SqT.of, Rd.of])))
local macro_rules | `(tactic| walk_at "rv") => `(tactic| (with_reducible (first
  | refine r_v0 ?_ | refine r_v1 ?_ | refine r_v2 ?_ | refine r_v3 ?_ | refine r_v4 ?_ | refine r_v5 ?_ | refine r_v6 ?_ | refine r_v7 ?_ | refine r_v8 ?_ | refine r_v9 ?_ | refine r_v10 ?_ | refine r_v11 ?_ | refine r_v12 ?_ | refine r_v13 ?_ | refine r_n0 ?_ | refine r_n1 ?_ | refine r_n2 ?_ | refine r_n3 ?_ | refine r_n4 ?_ | refine r_n5 ?_ | refine r_n6 ?_ | refine r_n7 ?_ | refine r_n8 ?_ | refine r_n9 ?_ | refine r_n10 ?_ | refine r_n11 ?_ | refine r_n12 ?_ | refine r_n13 ?_)))
local macro_rules | `(tactic| walk_at "x1") => `(tactic| fail)
local macro_rules | `(tactic| walk_at "r1") => `(tactic| (first
  | (with_reducible (first | refine r_seq ?_ | refine r_asg ?_ | refine r_ret ?_ | refine r_ifS ?_ | refine r_next ?_ | refine r_drop ?_ | refine r_brk ?_ | refine r_raise ?_ | refine r_test ?_ | refine r_B ?_ | refine r_and ?_ | refine r_or ?_ | refine r_not ?_ | refine r_isN ?_ | refine r_notN ?_ | refine r_c ?_ | refine r_op ?_ | refine r_un ?_ | refine r_cons ?_ | refine r_nil ?_ | refine r_call ?_ | refine r_cb ?_ | refine r_andV ?_ | refine r_orV ?_ | refine r_notV ?_ | refine r_ifE ?_ | refine r_sl ?_ | refine r_noPart ?_ | refine r_part ?_ | refine r_tup ?_ | refine r_lst ?_ | refine r_bm ?_ | refine r_bm0 ?_ | refine r_dget ?_ | refine r_din ?_ | refine r_dnotin ?_ | refine r_dput ?_ | refine r_fld ?_ | refine r_meth ?_ | refine r_yes ?_ | refine r_lc ?_ | refine r_for ?_ | refine r_rng1 ?_ | refine r_rng2 ?_ | refine r_iList ?_ | refine r_iKeys ?_ | refine r_dnew ?_))
  | walk_at "rv"
  | (with_reducible (first | refine r_add ?_ | refine r_sub ?_ | refine r_neg ?_ | refine r_lt ?_ | refine r_le ?_ | refine r_gt ?_ | refine r_ge ?_ | refine r_eqI ?_ | refine r_eqS ?_ | refine r_neI ?_ | refine r_neS ?_ | refine r_max2 ?_ | refine r_min2 ?_ | refine r_blP ?_ | refine r_int ?_ | refine r_tyS ?_))
  | ((with_reducible (first | refine r_div ?_ ?_ | refine r_mod ?_ ?_ | refine r_pow ?_ ?_ | refine r_mulL ?_ ?_ | refine r_mulR ?_ ?_)); first | decide | omega)
  | ((with_reducible (first | refine r_slS ?_ ?_ | refine r_lenS ?_ ?_ | refine r_addS ?_ ?_)); (first | (exact sz (by omega)) | (exact sz (by simp only [List.length_append]; omega))))
  | ((with_reducible (first | refine r_mkT ?_ ?_ | refine r_mkL ?_ ?_)); exact sz (by simp))
  | (with_reducible (first | refine iteT ?_ | refine iteF ?_ | refine r_nT ?_ | refine r_nF ?_))
  | ((with_reducible refine r_rng1E ?_ ?_); omega)
  | ((with_reducible refine r_rng2E ?_ ?_); omega)
  | ((with_reducible apply r_iListE); (walk_at "hp"))
  | ((with_reducible apply r_tyL); (walk_at "hp"))
  | ((with_reducible apply r_ixT); (walk_at "hp"); exact rfl)
  | ((with_reducible apply r_ixL); (walk_at "hp"); exact rfl)
  | (with_reducible (first | refine r_is_int_int ?_ | refine r_is_int_bool ?_ | refine r_is_int_str ?_ | refine r_is_int_tuple ?_ | refine r_is_int_list ?_ | refine r_is_int_dict ?_ | refine r_is_str_int ?_ | refine r_is_str_bool ?_ | refine r_is_str_str ?_ | refine r_is_str_tuple ?_ | refine r_is_str_list ?_ | refine r_is_str_dict ?_ | refine r_is_bl_int ?_ | refine r_is_bl_bool ?_ | refine r_is_bl_str ?_ | refine r_is_bl_tuple ?_ | refine r_is_bl_list ?_ | refine r_is_bl_dict ?_ | refine r_is_non_int ?_ | refine r_is_non_bool ?_ | refine r_is_non_str ?_ | refine r_is_non_tuple ?_ | refine r_is_non_list ?_ | refine r_is_non_dict ?_))
  | ((with_reducible apply r_is_lst_int); (walk_at "hp"))
  | ((with_reducible apply r_is_lst_str); (walk_at "hp"))
  | ((with_reducible apply r_is_lst_tuple); (walk_at "hp"))
  | ((with_reducible apply r_is_lst_list); (walk_at "hp"))
  | ((with_reducible apply r_is_lst_dict); (walk_at "hp"))
  | ((with_reducible apply r_is_tup_int); (walk_at "hp"))
  | ((with_reducible apply r_is_tup_str); (walk_at "hp"))
  | ((with_reducible apply r_is_tup_tuple); (walk_at "hp"))
  | ((with_reducible apply r_is_tup_list); (walk_at "hp"))
  | ((with_reducible apply r_is_tup_dict); (walk_at "hp"))
  | ((with_reducible apply r_is_dK_int); (walk_at "hp"))
  | ((with_reducible apply r_is_dK_str); (walk_at "hp"))
  | ((with_reducible apply r_is_dK_tuple); (walk_at "hp"))
  | ((with_reducible apply r_is_dK_list); (walk_at "hp"))
  | ((with_reducible apply r_is_dK_dict); (walk_at "hp"))
  | ((with_reducible apply r_lenL); (walk_at "hp"))
  | ((with_reducible apply r_lenT); (walk_at "hp"))
  | ((with_reducible apply r_lenD); (walk_at "hp"))
  | walk_at "x1"
  ))
local macro_rules | `(tactic| walk_at "rd") => `(tactic| (repeat' (walk_at "r1")))
namespace Pk
def sp_chain_of (A : Ad) : Sp := fun vs H Q E => ∃ (d : Addr) (n : Int) (lv : List (Int × Option Int)) (c : List Int), vs = [.ref d, .int n] ∧ Rd H d (.dK (bK lv)) ∧ Ch lv n c ∧ c.length ≤ 100000 ∧
  Nw H (.lst (c.map V.int)) Q
theorem u_chain_of {A : Ad} {d : Addr} {n : Int} {lv : List (Int × Option Int)} {c : List Int} {H : Hp} {Q : VK} {E : XK} (h1 : Rd H d (.dK (bK lv))) (h2 : Ch lv n c) (h3 : c.length ≤ 100000) (h : Nw H (.lst (c.map V.int)) Q) : sp_chain_of A [.ref d, .int n] H Q E := ⟨d, n, lv, c, rfl, h1, h2, h3, h⟩
def t_chain_of (A : Ad) (E : XK) : TS := tSeq (tAsg (tLst (tCons (tVar 1) (tNil))) (gName 2)) (tSeq (tWhile (tB (tNotN (tDGet (tVar 0) (tOp (rIx A.K) (tVar 2) (tUn rNeg (tC (.int 1))))))) (tDrop (tBM A.K "list" rAppend (tVar 2) (tCons (tDGet (tVar 0) (tOp (rIx A.K) (tVar 2) (tUn rNeg (tC (.int 1))))) (tNil))))) (tRet (tVar 2)))
theorem p_chain_of (A : Ad) {vs : List V} {H : Hp} {Q : VK} {E : XK} (h : sp_chain_of A vs H Q E) : t_chain_of A E { nx := fun _ H2 => Q .non H2, rt := Q } (start ["bases", "number", "chain"] vs) H := by
  obtain ⟨d, n, lv, c, rfl, hR, hc, hl, h1⟩ := h
  change t_chain_of A E _ [_, _, none] _
  unfold t_chain_of
  walk_at "rd"
  intro p H1 np s1 e1
  walk_at "rd"
  refine r_while (fun σ H2 => ∃ (pre : List Int) (x : Int) (r : List Int), σ = [some (.ref d), some (.int n), some (.ref p)] ∧ Same H H2 ∧ H2 p = some (.lst (pre.map V.int ++ [.int x])) ∧ Ch lv x r ∧ c = pre ++ r)
    (fun σ H2 => match H2 p with
      | some (.lst xs) => c.length - xs.length
      | _ => 0) ⟨[], n, c, rfl, s1, e1, hc, rfl⟩ ?_
  rintro σ H2 ⟨pre, x, r, rfl, s2, e2, hx, ec⟩
  walk_at "rd"
  refine r_ixL (.of e2) (atI_last _ _) ?_
  cases hx with
  | whole ex =>
    refine r_dgetE (sm_rd s2 hR) (v := .non) (by rw [bK_val, ex]; rfl) ?_
    walk_at "rd"
    refine r_ndec (fun z => absurd rfl z) fun _ => ?_
    walk_at "rd"
    refine h1 p H2 np s2 ?_
    rw [e2, ec, List.map_append]
    rfl
  | @lean _ b r ex hb =>
    refine r_dgetE (sm_rd s2 hR) (v := .int b) (by rw [bK_val, ex]; rfl) ?_
    walk_at "rd"
    refine r_ndec (fun _ => ?_) fun z => V.noConfusion z
    refine wh_body ?_
    walk_at "rd"
    refine r_ixL (.of e2) (atI_last _ _) ?_
    refine r_dgetE (sm_rd s2 hR) (v := .int b) (by rw [bK_val, ex]; rfl) ?_
    walk_at "rd"
    have lc := congrArg List.length ec
    rw [List.length_append, List.length_cons] at lc
    refine r_append e2 (szl (by rw [List.length_append, List.length_map]; show pre.length + 1 < _; omega)) fun H3 c3 => ?_
    walk_at "rd"
    have e3 : H3 p = some (.lst ((pre ++ [x]).map V.int ++ [.int b])) := by rw [c3.1, List.map_append]; rfl
    refine ⟨⟨pre ++ [x], b, r, rfl, sm_chg s2 np c3, e3, hb, by rw [ec]; simp⟩, ?_⟩
    rw [e3, e2]
    have lb : 0 < r.length := by obtain ⟨q, rfl⟩ := hb.head; exact Nat.succ_pos _
    simp only [List.length_append, List.length_map, List.length_cons, List.length_nil]
    omega
def sp_l_cell_at (A : Ad) : Sp := fun vs H Q E => ∃ (a : Addr) (ns : List Int) (k : Int), vs = [.ref a, .int k] ∧ 0 ≤ k ∧ SqL A.K H a (ns.map V.int) ∧ ns.length ≤ 1000 ∧ Q (.int (cellAt ns k)) H
theorem u_cell_at {A : Ad} {a : Addr} {ns : List Int} {k : Int} {H : Hp} {Q : VK} {E : XK} (hk : 0 ≤ k) (hS : SqL A.K H a (ns.map V.int)) (hl : ns.length ≤ 63) (h : Q (.int (cellAt ns k)) H) : sp_l_cell_at A [.ref a, .int k] H Q E :=
  ⟨a, ns, k, rfl, hk, hS, by omega, h⟩
local macro_rules | `(tactic| walk_at "x1") => `(tactic| ((with_reducible apply u_cell_at); (first | decide | omega); (walk_at "hp"); assumption))
def t_l_cell_at (A : Ad) (E : XK) : TS := tSeq (tIfS (tTest (tOp (rLt) (tVar 1) (tCB (rLenG A.K) (tCons (tVar 0) (tNil))))) (tRet (tOp (rIx A.K) (tVar 0) (tVar 1))) (tNext)) (tRet (tC (.int 0)))
theorem p_l_cell_at (A : Ad) {vs : List V} {H : Hp} {Q : VK} {E : XK} (h : sp_l_cell_at A vs H Q E) : t_l_cell_at A E { nx := fun _ H2 => Q .non H2, rt := Q } (start ["_law_script", "_law_k"] vs) H := by
  obtain ⟨a, ns, k, rfl, hk, hS, hl, h1⟩ := h
  change t_l_cell_at A E _ [_, _] _
  unfold t_l_cell_at
  walk_at "rd"
  rw [List.length_map]
  refine r_dec (fun c => ?_) (fun c => ?_)
  · walk_at "rd"
    obtain ⟨j, rfl⟩ : ∃ j : Nat, k = j := ⟨k.toNat, by omega⟩
    have hj : j < ns.length := by omega
    refine r_ixL hS (v := .int (cellAt ns j)) (atI_nat ?_) h1
    rw [List.getElem?_map, List.getElem?_eq_getElem hj]
    unfold cellAt
    simp [List.getD, hj]
  · walk_at "rd"
    have e : cellAt ns k = 0 := by
      unfold cellAt
      simp [List.getD, List.getElem?_eq_none (show ns.length ≤ k.toNat by omega)]
    rw [e] at h1
    exact h1
def sp_l_whole (A : Ad) : Sp := fun vs H Q E => ∃ i, vs = [.int i] ∧ Q (.bl true) H
def t_l_whole (A : Ad) (E : XK) : TS := tRet (tAndV (tCB (rIsi A.K) (tCons (tVar 0) (tCons (tC (.ty "int")) (tNil)))) (tNotV (tCB (rIsi A.K) (tCons (tVar 0) (tCons (tC (.ty "bool")) (tNil))))))
theorem p_l_whole (A : Ad) {vs : List V} {H : Hp} {Q : VK} {E : XK} (h : sp_l_whole A vs H Q E) : t_l_whole A E { nx := fun _ H2 => Q .non H2, rt := Q } (start ["_law_found"] vs) H := by
  obtain ⟨i, rfl, h1⟩ := h
  change t_l_whole A E _ [_] _
  unfold t_l_whole
  walk_at "rd"
  exact h1
def sp_l_wood (A : Ad) : Sp := fun vs H Q E => ∃ (a : Addr) (ns : List Int), vs = [.ref a] ∧ SqL A.K H a (ns.map V.int) ∧ ns.length ≤ 63 ∧
  ∀ (d : Addr) (H' : Hp) (lv : List (Int × Option Int)) (rk : Int → Nat), Same H H' → H d = none → H' d = some (.dK (bK lv)) → (lv.map Prod.fst).Nodup → Wood lv rk → (∀ n, rk n ≤ 30) → 0 < lv.length → lv.length ≤ 30 → Q (.ref d) H'
def t_l_wood (A : Ad) (E : XK) : TS := tSeq (tAsg (tOp (rIx A.K) (tLst (tCons (tC (.int 0)) (tCons (tC (.int 0)) (tCons (tC (.int 0)) (tCons (tOp rPow (tC (.int 10)) (tC (.int 12))) (tNil)))))) (tOp rMod (tOp rDiv (tCall (sp_l_cell_at A) [] E0 (tCons (tVar 0) (tCons (tC (.int 1)) (tNil)))) (tC (.int 31))) (tC (.int 4)))) (gName 1)) (tSeq (tAsg (tOp rAdd3 (tC (.int 1)) (tOp rMod (tCall (sp_l_cell_at A) [] E0 (tCons (tVar 0) (tCons (tC (.int 0)) (tNil)))) (tC (.int 9)))) (gName 2)) (tCut (tIfS (tTest (tOp (rEqG A.K) (tOp rMod (tOp rDiv (tCall (sp_l_cell_at A) [] E0 (tCons (tVar 0) (tCons (tC (.int 0)) (tNil)))) (tC (.int 9))) (tC (.int 8))) (tC (.int 1)))) (tAsg (tOp rAdd3 (tVar 2) (tC (.int 12))) (gName 2)) (tNext)) (tCut (tIfS (tTest (tOp (rEqG A.K) (tOp rMod (tOp rDiv (tCall (sp_l_cell_at A) [] E0 (tCons (tVar 0) (tCons (tC (.int 0)) (tNil)))) (tC (.int 9))) (tC (.int 8))) (tC (.int 2)))) (tAsg (tOp rAdd3 (tVar 2) (tC (.int 21))) (gName 2)) (tNext)) (tSeq (tAsg (tOp (rIx A.K) (tLst (tCons (tC (.int 1)) (tCons (tC (.int 3)) (tNil)))) (tOp rMod (tOp rDiv (tCall (sp_l_cell_at A) [] E0 (tCons (tVar 0) (tCons (tC (.int 2)) (tNil)))) (tC (.int 2))) (tC (.int 2)))) (gName 3)) (tSeq (tAsg (tLc (iRng1 (tCons (tVar 2) (tNil))) (gName 5) (tYes) (tOp rAdd3 (tVar 1) (tOp rMul (tVar 3) (tOp rMod (tOp rAdd3 (tOp rMul (tC (.int 7)) (tVar 5)) (tCall (sp_l_cell_at A) [] E0 (tCons (tVar 0) (tCons (tC (.int 1)) (tNil))))) (tC (.int 31))))) [5]) (gName 4)) (tSeq (tAsg (tLst (tCons (tC .non) (tNil))) (gName 6)) (tSeq (tFor (iRng2 (tCons (tC (.int 1)) (tCons (tVar 2) (tNil)))) (gName 5) (tSeq (tAsg (tCall (sp_l_cell_at A) [] E0 (tCons (tVar 0) (tCons (tOp rAdd3 (tC (.int 3)) (tVar 5)) (tNil)))) (gName 7)) (tIfS (tTest (tOp (rEqG A.K) (tOp rMod (tVar 7) (tC (.int 5))) (tC (.int 0)))) (tDrop (tBM A.K "list" rAppend (tVar 6) (tCons (tC .non) (tNil)))) (tIfS (tTest (tOp (rLt) (tOp rMod (tVar 7) (tC (.int 5))) (tC (.int 3)))) (tDrop (tBM A.K "list" rAppend (tVar 6) (tCons (tOp (rIx A.K) (tVar 4) (tOp rSub (tVar 5) (tC (.int 1)))) (tNil)))) (tDrop (tBM A.K "list" rAppend (tVar 6) (tCons (tOp (rIx A.K) (tVar 4) (tOp rMod (tOp rDiv (tVar 7) (tC (.int 5))) (tVar 5))) (tNil)))))))) (tSeq (tAsg (tLc (iRng1 (tCons (tVar 2) (tNil))) (gName 5) (tYes) (tVar 5) [5]) (gName 8)) (tCut (tIfS (tTest (tOp (rEqG A.K) (tOp rMod (tCall (sp_l_cell_at A) [] E0 (tCons (tVar 0) (tCons (tC (.int 2)) (tNil)))) (tC (.int 2))) (tC (.int 1)))) (tDrop (tBM0 A.K "list" rReverse (tVar 8))) (tNext)) (tSeq (tAsg (tDNewK) (gName 9)) (tSeq (tFor (iList A.K (tVar 8)) (gName 5) (sDPut (tVar 9) (tOp (rIx A.K) (tVar 4) (tVar 5)) (tOp (rIx A.K) (tVar 6) (tVar 5)))) (tRet (tVar 9)))))))))))))
theorem p_l_wood (A : Ad) {vs : List V} {H : Hp} {Q : VK} {E : XK} (h : sp_l_wood A vs H Q E) : t_l_wood A E { nx := fun _ H2 => Q .non H2, rt := Q } (start ["_law_script", "_law_far", "_law_many", "_law_step", "_law_names", "_law_k", "_law_below", "_law_cell", "_law_order", "_law_wood_here"] vs) H := by
  obtain ⟨a, ns, rfl, hS, hl, h1⟩ := h
  change t_l_wood A E _ [_, none, none, none, none, none, none, none, none, none] _
  unfold t_l_wood
  walk_at "rd"
  intro p1 H1 np1 s1 e1
  walk_at "rd"
  obtain ⟨far, hfar⟩ : ∃ far : Int, atI [V.int 0, V.int 0, V.int 0, V.int (10 ^ (12 : Int).toNat)] (cellAt ns 1 / 31 % 4) = some (.int far) := by
    generalize ec : cellAt ns 1 / 31 % 4 = c
    have h : c = 0 ∨ c = 1 ∨ c = 2 ∨ c = 3 := by omega
    rcases h with rfl | rfl | rfl | rfl <;> exact ⟨_, rfl⟩
  refine r_ixL (.of e1) hfar ?_
  walk_at "rd"
  refine r_cut (fun σ' H' => ∃ m : Int, σ' = [some (.ref a), some (.int far), some (.int m), none, none, none, none, none, none, none] ∧ 1 ≤ m ∧ (m ≤ 9 ∨ m ≤ 21 ∧ ¬ cellAt ns 0 / 9 % 8 = 2) ∧ H' = H1) ?_ ?_
  · walk_at "rd"
    refine r_dec (fun c => ?_) (fun c => ?_)
    · walk_at "rd"
      exact ⟨_, rfl, by omega, by omega, rfl⟩
    · walk_at "rd"
      exact ⟨_, rfl, by omega, by omega, rfl⟩
  rintro σ' H' ⟨m0, rfl, m1, m2, rfl⟩
  walk_at "rd"
  refine r_cut (fun σ' H2 => ∃ m : Nat, σ' = [some (.ref a), some (.int far), some (.int m), none, none, none, none, none, none, none] ∧ 1 ≤ m ∧ m ≤ 30 ∧ H2 = H') ?_ ?_
  · walk_at "rd"
    refine r_dec (fun c => ?_) (fun c => ?_)
    · walk_at "rd"
      exact ⟨(m0 + 21).toNat, by rw [Int.toNat_of_nonneg (by omega)], by omega, by omega, rfl⟩
    · walk_at "rd"
      exact ⟨m0.toNat, by rw [Int.toNat_of_nonneg (by omega)], by omega, by omega, rfl⟩
  rintro σ' H1 ⟨m, rfl, m3, m4, rfl⟩
  walk_at "rd"
  intro p2 H2 np2 s2 e2
  walk_at "rd"
  obtain ⟨v, hv, hv2⟩ := menu2 (x := .int 1) (y := .int 3) (i := cellAt ns 2 / 2 % 2) (by omega)
  obtain ⟨st, rfl, hst⟩ : ∃ st : Int, v = .int st ∧ (st = 1 ∨ st = 3) := hv2.elim (fun e => ⟨1, e, .inl rfl⟩) fun e => ⟨3, e, .inr rfl⟩
  clear hv2
  refine r_ixL (.of e2) hv ?_
  walk_at "rd"
  have s02 : Same H H2 := s1.trans s2
  generalize eff : (fun k : Nat => far + st * ((7 * (k : Int) + cellAt ns 1) % 31)) = f
  have ef : ∀ k : Nat, far + st * ((7 * (k : Int) + cellAt ns 1) % 31) = f k := fun k => by rw [← eff]
  have inj : ∀ j k, j < 31 → k < 31 → f j = f k → j = k := fun j k hj hk e => by
    rw [← ef, ← ef] at e
    rcases hst with rfl | rfl <;> omega
  refine lc_go (walk_rng0 (n := (m : Int).toNat)) (by omega) (fun D i acc H3 => H2 D = none ∧ Same H2 H3 ∧ acc = (List.range i).map fun k => V.int (f k)) (fun D H3 hD s3 _ => ⟨hD, s3, rfl⟩) (fun _ _ _ _ _ _ => trivial) ?_ ?_
  · rintro D i x acc H3 H4 hi ha e ⟨hD, s3, rfl⟩ ⟨rfl, rfl⟩
    walk_at "rd"
    rw [ef]
    refine lc_end ha (by omega) e fun H5 c5 => ⟨hD, sm_chg s3 hD c5, ?_⟩
    rw [List.range_succ, List.map_append]
    rfl
  rintro D2 acc H3 ⟨nD2, s3, rfl⟩ eD2
  have s03 : Same H H3 := s02.trans s3
  walk_at "rd"
  intro p3 H4 np3 s4 e4
  walk_at "rd"
  have g2 : ∀ {X : Hp} {j : Nat}, X D2 = some (.lst ((List.range (m : Int).toNat).map fun k => V.int (f k))) → j < m → ∀ {Q : VK}, Q (.int (f j)) X → rIx A.K (.ref D2) (.int (j : Int)) X Q := fun {X j} e hj {Q} q =>
    r_ixL (.of e) (atI_nat (by rw [List.getElem?_map, List.getElem?_range (by omega)]; rfl)) q
  have nD23 : D2 ≠ p3 := ne_of_none eD2 np3
  refine for_go (walk_rng (lo := 1) (n := ((m : Int) - 1).toNat)) (fun i σ H5 => ∃ (y5 y7 : Option V) (bl : List (Option Int)), σ = [some (.ref a), some (.int far), some (.int m), some (.int st), some (.ref D2), y5, some (.ref p3), y7, none, none] ∧
      Same H3 H5 ∧ H5 p3 = some (.lst (bl.map obV)) ∧ bl.length = i + 1 ∧ ∀ k b, bl[k]? = some (some b) → ∃ j, j < k ∧ b = f j) ⟨none, none, [none], rfl, s4, e4, rfl, fun k b h => by cases k <;> simp at h⟩ (fun _ _ _ _ _ => trivial) ?_ ?_
  · rintro i x σ H5 H6 hi ⟨y5, y7, bl, rfl, s5, e5, hbl, low⟩ ⟨rfl, rfl⟩
    have hm : i + 1 < m := by omega
    have app : ∀ {o : Option Int} {H7 : Hp} {z : Option V}, (∀ b, o = some b → ∃ j, j < i + 1 ∧ b = f j) → Chg p3 (.lst (bl.map obV ++ [obV o])) H6 H7 → ∃ (y5 y7 : Option V) (bl : List (Option Int)), [some (.ref a), some (.int far), some (.int m), some (.int st), some (.ref D2), some (.int (1 + (i : Int))), some (.ref p3), z, none, none] = [some (.ref a), some (.int far), some (.int m), some (.int st), some (.ref D2), y5, some (.ref p3), y7, none, none] ∧
        Same H3 H7 ∧ H7 p3 = some (.lst (bl.map obV)) ∧ bl.length = i + 1 + 1 ∧ ∀ k b, bl[k]? = some (some b) → ∃ j, j < k ∧ b = f j := fun {o H7 z} ho c => by
      refine ⟨_, _, bl ++ [o], rfl, sm_chg s5 np3 c, by rw [c.1, List.map_append]; rfl, by simp [hbl], fun k b h => ?_⟩
      by_cases hk : k < bl.length
      · rw [List.getElem?_append_left hk] at h; exact low k b h
      · rw [List.getElem?_append_right (by omega)] at h
        have hk2 : k = bl.length := by
          have := (List.getElem?_eq_some_iff.mp h).1
          simp at this; omega
        subst hk2
        simp at h
        obtain ⟨j, hj, e⟩ := ho b h
        exact ⟨j, by omega, e⟩
    have hline : (bl.map obV).length < sizeLine := szl (by rw [List.length_map]; omega)
    have eD : H6 D2 = _ := s5 _ _ eD2
    walk_at "rd"
    generalize cellAt ns (3 + (1 + (i : Int))) = c
    walk_at "rd"
    refine r_dec (fun c1 => ?_) fun c1 => ?_
    · walk_at "rd"
      refine r_append e5 hline fun H7 c7 => ?_
      walk_at "rd"
      exact app (o := none) (fun b q => by cases q) c7
    walk_at "rd"
    refine r_dec (fun c2 => ?_) fun c2 => ?_
    · walk_at "rd"
      rw [show (1 + (i : Int) - 1) = ((i : Nat) : Int) by omega]
      refine g2 eD (by omega) ?_
      walk_at "rd"
      refine r_append e5 hline fun H7 c7 => ?_
      walk_at "rd"
      exact app (o := some (f i)) (fun b q => ⟨i, by omega, (Option.some.inj q).symm⟩) c7
    · walk_at "rd"
      obtain ⟨j, ej⟩ : ∃ j : Nat, c / 5 % (1 + (i : Int)) = j := ⟨(c / 5 % (1 + (i : Int))).toNat, by have := Int.emod_nonneg (c / 5) (show (1 + (i : Int)) ≠ 0 by omega); omega⟩
      have hj : j < i + 1 := by have := Int.emod_lt_of_pos (c / 5) (show 0 < 1 + (i : Int) by omega); omega
      rw [ej]
      refine g2 eD (by omega) ?_
      walk_at "rd"
      refine r_append e5 hline fun H7 c7 => ?_
      walk_at "rd"
      exact app (o := some (f j)) (fun b q => ⟨j, by omega, (Option.some.inj q).symm⟩) c7
  rintro σ H5 ⟨y5, y7, bl, rfl, s5, e5, hbl, low⟩
  have hbm : bl.length = m := by omega
  have s05 := s03.trans s5
  have eD5 := s5 _ _ eD2
  walk_at "rd"
  refine lc_go (walk_rng0 (n := (m : Int).toNat)) (by omega) (fun D i acc H6 => H5 D = none ∧ Same H5 H6 ∧ acc = (List.range i).map fun k : Nat => V.int k) (fun D H6 hD s6 _ => ⟨hD, s6, rfl⟩) (fun _ _ _ _ _ _ => trivial) ?_ ?_
  · rintro D i x acc H6 H7 hi ha e ⟨hD, s6, rfl⟩ ⟨rfl, rfl⟩
    walk_at "rd"
    refine lc_end ha (by omega) e fun H8 c8 => ⟨hD, sm_chg s6 hD c8, ?_⟩
    rw [List.range_succ, List.map_append]
    rfl
  rintro D8 acc H6 ⟨nD8, s6, rfl⟩ eD8
  walk_at "rd"
  refine r_cut (fun σ' H7 => ∃ os : List Nat, σ' = [some (.ref a), some (.int far), some (.int m), some (.int st), some (.ref D2), y5, some (.ref p3), y7, some (.ref D8), none] ∧ Same H5 H7 ∧ H7 D8 = some (.lst (os.map fun k : Nat => V.int k)) ∧ (∀ k, k ∈ os ↔ k < m) ∧ os.Nodup ∧ os.length = m) ?_ ?_
  · walk_at "rd"
    refine r_dec (fun c => ?_) fun c => ?_
    · walk_at "rd"
      refine r_rev eD8 fun H7 c7 => ?_
      walk_at "rd"
      refine ⟨(List.range m).reverse, rfl, sm_chg s6 nD8 c7, ?_, fun k => by simp, (List.pairwise_reverse.mpr (List.Pairwise.imp (fun h => Ne.symm h) List.nodup_range)), by simp⟩
      rw [c7.1, ← List.map_reverse]
      rfl
    · walk_at "rd"
      exact ⟨List.range m, rfl, s6, eD8, fun k => by simp, List.nodup_range, by simp⟩
  rintro σ' H7 ⟨os, rfl, s7, e7, ho, hnd, hlen⟩
  obtain ⟨w1, rk, w2, w3⟩ := wood_of (by omega) inj hbm low ho hnd
  walk_at "rd"
  intro p9 H9 np9 s9 e9
  walk_at "rd"
  refine for_go walk_list (fun i σ H10 => ∃ y5 : Option V, σ = [some (.ref a), some (.int far), some (.int m), some (.int st), some (.ref D2), y5, some (.ref p3), y7, some (.ref D8), some (.ref p9)] ∧
      Same H7 H10 ∧ H10 p9 = some (.dK (bK ((os.take i).map fun k => (f k, bl.getD k none))))) ⟨y5, rfl, s9, e9⟩ (fun i σ H10 hi ⟨_, _, s10, _⟩ => .of (s10 _ _ e7)) ?_ ?_
  · rintro i x σ H10 H11 hi ⟨z5, rfl, s10, e10⟩ ⟨rfl, hx⟩
    rw [List.length_map] at hi
    rw [List.getElem?_map, List.getElem?_eq_getElem hi] at hx
    obtain rfl := Option.some.inj hx
    have hk : os[i] < m := (ho _).mp (List.getElem_mem hi)
    walk_at "rd"
    have e5' := s10 _ _ (s7 _ _ e5)
    refine r_ixL (.of e5') (v := obV (bl.getD os[i] none)) (atI_nat ?_) ?_
    · rw [List.getElem?_map, List.getElem?_eq_getElem (by omega), List.getD_eq_getElem?_getD, List.getElem?_eq_getElem (by omega)]
      rfl
    walk_at "rd"
    refine g2 (s10 _ _ (s7 _ _ eD5)) hk ?_
    have ht : os.take (i + 1) = os.take i ++ [os[i]] := by rw [List.take_add_one, List.getElem?_eq_getElem hi]; rfl
    have hno : look ((os.take i).map fun k => (f k, bl.getD k none)) (f os[i]) = none := by
      refine look_none.mpr fun h => ?_
      have h3 : ((os.take (i + 1)).map f).Nodup := by
        have h2 := (w1.sublist (List.Sublist.map _ (List.Sublist.map _ (List.take_sublist (i + 1) os))))
        rw [List.map_map] at h2
        exact h2
      rw [ht, List.map_append, List.nodup_append] at h3
      rw [List.map_map] at h
      exact h3.2.2 _ h _ (by simp) rfl
    refine r_dputE e10 (szl (by rw [bK_len, List.length_map, List.length_take]; omega)) fun H12 c12 => ?_
    refine ⟨_, rfl, sm_chg s10 np9 c12, ?_⟩
    rw [c12.1, bK_put hno, ht, List.map_append]
    rfl
  rintro σ H10 ⟨z5, rfl, s10, e10⟩
  rw [List.length_map, List.take_of_length_le (Nat.le_refl _)] at e10
  walk_at "rd"
  exact h1 p9 H10 _ rk ((s05.trans s7).trans s10) ((s05.trans s7).free np9) e10 w1 w2 w3 (by rw [List.length_map]; omega) (by rw [List.length_map]; omega)
def sp_l_law (A : Ad) : Sp := fun vs H Q E => ∃ (a : Addr) (ns : List Int), vs = [.ref a] ∧ SqL A.K H a (ns.map V.int) ∧ ns.length ≤ 63 ∧ ∀ H', Q (.bl true) H'
theorem end_law {A : Ad} {H : Hp} {Q : VK} {E : XK} (a : Addr) (ns : List Int) (hl : ns.length ≤ 63) (hS : SqL A.K H a (ns.map V.int)) (hq : ∀ H', Q (.bl true) H') : sp_l_law A [.ref a] H Q E := ⟨a, ns, rfl, hS, hl, hq⟩
def t_l_law (A : Ad) (E : XK) : TS := tSeq (tAsg (tCall (sp_l_wood A) [] E0 (tCons (tVar 0) (tNil))) (gName 1)) (tSeq (tAsg (tCB (rListG A.K) (tCons (tVar 1) (tNil))) (gName 2)) (tSeq (tAsg (tOp (rIx A.K) (tVar 2) (tOp rMod (tCall (sp_l_cell_at A) [] E0 (tCons (tVar 0) (tCons (tC (.int 3)) (tNil)))) (tCB (rLenG A.K) (tCons (tVar 2) (tNil))))) (gName 3)) (tSeq (tAsg (tCB (rDictD) (tCons (tVar 1) (tNil))) (gName 4)) (tSeq (tAsg (tCall (sp_chain_of A) [] E0 (tCons (tVar 4) (tCons (tVar 3) (tNil)))) (gName 5)) (tSeq (tIfS (tOr (tTest (tOp (rNeG A.K) (tVar 4) (tVar 1))) (tTest (tOp (rNeG A.K) (tCB (rListG A.K) (tCons (tVar 4) (tNil))) (tVar 2)))) (tRet (tC (.bl false))) (tNext)) (tSeq (tIfS (tOr (tNot (tB (tCB (rIsi A.K) (tCons (tVar 5) (tCons (tC (.ty "list")) (tNil)))))) (tTest (tOp (rEqG A.K) (tVar 5) (tLst (tNil))))) (tRet (tC (.bl false))) (tNext)) (tSeq (tAsg (tVar 3) (gName 6)) (tSeq (tFor (iList A.K (tVar 5)) (gName 7) (tSeq (tIfS (tOr (tB (tIsN (tVar 6))) (tOr (tNot (tB (tCall (sp_l_whole A) [] E0 (tCons (tVar 7) (tNil))))) (tTest (tOp (rNeG A.K) (tVar 7) (tVar 6))))) (tRet (tC (.bl false))) (tNext)) (tAsg (tDGet (tVar 1) (tVar 6)) (gName 6)))) (tRet (tIsN (tVar 6)))))))))))
theorem p_l_law (A : Ad) {vs : List V} {H : Hp} {Q : VK} {E : XK} (h : sp_l_law A vs H Q E) : t_l_law A E { nx := fun _ H2 => Q .non H2, rt := Q } (start ["_law_script", "_law_wood_here", "_law_names", "_law_number", "_law_handed", "_law_found", "_law_due", "_law_one"] vs) H := by
  obtain ⟨a, ns, rfl, hS, hl, h1⟩ := h
  change t_l_law A E _ [_, none, none, none, none, none, none, none] _
  unfold t_l_law
  walk_at "rd"
  refine ⟨a, ns, rfl, hS, hl, fun d H1 lv rk s1 nd e1 hnd hw hrk hpos hlen => ?_⟩
  walk_at "rd"
  refine r_listD (.of e1) fun p H2 np s2 e2 => ?_
  rw [bK_list] at e2
  walk_at "rd"
  rw [List.length_map, List.length_map]
  walk_at "rd"
  obtain ⟨j, ej⟩ : ∃ j : Nat, cellAt ns 3 % (lv.length : Int) = j := ⟨(cellAt ns 3 % (lv.length : Int)).toNat, by have := Int.emod_nonneg (cellAt ns 3) (show (lv.length : Int) ≠ 0 by omega); omega⟩
  have hj : j < lv.length := by have := Int.emod_lt_of_pos (cellAt ns 3) (show 0 < (lv.length : Int) by omega); omega
  rw [ej]
  obtain ⟨⟨n, o⟩, hm⟩ : ∃ p, lv[j]? = some p := ⟨_, List.getElem?_eq_getElem hj⟩
  refine r_ixL (.of e2) (v := .int n) (atI_nat (by rw [List.getElem?_map, List.getElem?_map, hm]; rfl)) ?_
  walk_at "rd"
  refine r_dictD (sm_rd s2 (.of e1)) fun q H3 nq s3 e3 => ?_
  walk_at "rd"
  have hin : (look lv n).isSome := by rw [look_of_mem hnd (List.mem_of_getElem? hm)]; rfl
  obtain ⟨c, hc, hcl⟩ := hw.ch _ _ (hrk _) hin
  have := hrk n
  refine u_chain_of (.of e3) hc (by omega) fun f H4 nf s4 e4 => ?_
  walk_at "rd"
  refine r_neB (s4 _ _ e3) (s4 _ _ (s3 _ _ (s2 _ _ e1))) hnd ?_
  walk_at "rd"
  refine r_listD (.of (s4 _ _ e3)) fun g H5 ng s5 e5 => ?_
  rw [bK_list] at e5
  walk_at "rd"
  refine r_neSame (inD (lv.map Prod.fst)) (inD_dp (.of e5)) (inD_dp (.of (s5 _ _ (s4 _ _ (s3 _ _ e2))))) (inD_shaped _) ?_
  walk_at "rd"
  intro g2 H6 ng2 s6 e6
  walk_at "rd"
  obtain ⟨cr, ec⟩ := hc.head
  refine r_eqD (inD c) (inD []) (inD_dp (.of (s6 _ _ (s5 _ _ e4)))) (inD_dp (c := []) (.of e6)) (inD_shaped _) (inD_shaped _) ?_
  rw [show PyData.eqv (inD c) (inD []) = false by rw [ec]; rfl]
  walk_at "rd"
  have e46 := s6 _ _ (s5 _ _ e4)
  have e16 := s6 _ _ (s5 _ _ (s4 _ _ (s3 _ _ (s2 _ _ e1))))
  refine for_go walk_list (fun i σ H7 => ∃ y7 : Option V, σ = [some (.ref a), some (.ref d), some (.ref p), some (.int n), some (.ref q), some (.ref f), some (obV c[i]?), y7] ∧ Same H6 H7) ⟨none, by rw [ec]; rfl, fun _ _ z => z⟩ (fun i σ H7 hi ⟨_, _, s7⟩ => .of (s7 _ _ e46)) ?_ ?_
  · rintro i x σ H7 H8 hi ⟨y7, rfl, s7⟩ ⟨rfl, hx⟩
    rw [List.length_map] at hi
    rw [List.getElem?_map, List.getElem?_eq_getElem hi] at hx
    obtain rfl := Option.some.inj hx
    have hci : c[i]? = some c[i] := List.getElem?_eq_getElem hi
    rw [hci]
    walk_at "rd"
    refine r_dec (fun z => V.noConfusion z) fun _ => ?_
    walk_at "rd"
    refine ⟨_, rfl, ?_⟩
    walk_at "rd"
    refine r_neV rfl ?_
    walk_at "rd"
    refine r_ndec (fun z => absurd rfl z) fun _ => ?_
    walk_at "rd"
    refine r_dgetE (.of (s7 _ _ e16)) (v := obV c[i + 1]?) (by rw [bK_val, hc.at i _ hci]; rfl) ?_
    walk_at "rd"
    exact ⟨_, rfl, s7⟩
  · rintro σ H7 ⟨y7, rfl, s7⟩
    rw [List.length_map, List.getElem?_eq_none (Nat.le_refl _)]
    walk_at "rd"
    exact h1 _
/-! ### the row: where each def stands, its derivation -/
def topS (i : Nat) : Stmt := PySem.Challenge.pw_packdelta_k04_chains.main.body.getD i (.Pass ⟨0, 0, 0, 0⟩)
abbrev s_chain_of : Stmt := topS 1
abbrev n_chain_of : List Str := ["bases", "number", "chain"]
abbrev a_chain_of : List Str := ["bases", "number"]
theorem sc_chain_of : FnScope n_chain_of a_chain_of (defScope s_chain_of) := ⟨rfl, rfl, rfl, by decide +kernel, rfl, by decide +kernel, by decide +kernel⟩
abbrev s_l_cell_at : Stmt := topS 3
abbrev n_l_cell_at : List Str := ["_law_script", "_law_k"]
abbrev a_l_cell_at : List Str := ["_law_script", "_law_k"]
theorem sc_l_cell_at : FnScope n_l_cell_at a_l_cell_at (defScope s_l_cell_at) := ⟨rfl, rfl, rfl, by decide +kernel, rfl, by decide +kernel, by decide +kernel⟩
abbrev s_l_whole : Stmt := topS 4
abbrev n_l_whole : List Str := ["_law_found"]
abbrev a_l_whole : List Str := ["_law_found"]
theorem sc_l_whole : FnScope n_l_whole a_l_whole (defScope s_l_whole) := ⟨rfl, rfl, rfl, by decide +kernel, rfl, by decide +kernel, by decide +kernel⟩
abbrev s_l_wood : Stmt := topS 5
abbrev n_l_wood : List Str := ["_law_script", "_law_far", "_law_many", "_law_step", "_law_names", "_law_k", "_law_below", "_law_cell", "_law_order", "_law_wood_here"]
abbrev a_l_wood : List Str := ["_law_script"]
theorem sc_l_wood : FnScope n_l_wood a_l_wood (defScope s_l_wood) := ⟨rfl, rfl, rfl, by decide +kernel, rfl, by decide +kernel, by decide +kernel⟩
abbrev s_l_law : Stmt := topS 6
abbrev n_l_law : List Str := ["_law_script", "_law_wood_here", "_law_names", "_law_number", "_law_handed", "_law_found", "_law_due", "_law_one"]
abbrev a_l_law : List Str := ["_law_script"]
theorem sc_l_law : FnScope n_l_law a_l_law (defScope s_l_law) := ⟨rfl, rfl, rfl, by decide +kernel, rfl, by decide +kernel, by decide +kernel⟩
structure TF (A : Ad) (mg : Str → Option Value) : Prop where
  bool_ : mg "bool" = none
  dict_ : mg "dict" = none
  int_ : mg "int" = none
  isinstance_ : mg "isinstance" = none
  len_ : mg "len" = none
  list_ : mg "list" = none
  range_ : mg "range" = none
section
variable {P : Program} {w : World} {A : Ad} {mg : Str → Option Value} {base : Heap}
theorem d_chain_of (T : TF A mg)  {f : Addr} {fd : FuncData} (F : FunD A.K "chain_of" "chain_of" (defArgs s_chain_of) (defBody s_chain_of) (defScope s_chain_of) [] [] f fd) : FnOk P w A.K mg base (L2.CX P w) 1 f fd a_chain_of (sp_chain_of A) := by
  refine F.ok (k := 0) sc_chain_of (fun vs H Q E h => ?_) (fun cdv A2 outer s H vs Q E hr h => ⟨t_chain_of A E, ?_, p_chain_of A  h⟩)
  · unfold sp_chain_of at h
    (repeat (obtain ⟨_, h⟩ := h)); subst_vars; rfl
  · exact pss_cons (ps_set (i := 2) sc_chain_of.nd rfl (Or.inl rfl) (pe_lst (pa_cons (pv 1) (pa_nil)))) (pss_cons (ps_while (passes_of rfl) (pt_cmp (pc_notN (pe_dget (hu_of hr) (pv 0) (pe_ix ix_seq (pv 2) (pe_un un_neg (pe_int)) (fun _ _ => rfl)) (fun _ _ => rfl)))) (pss_one (ps_expr (pe_bm PySem.F.plainAttrs_list PySem.F.slot_list_append PySem.F.type_list_append mt_append (pv 2) (pa_cons (pe_dget (hu_of hr) (pv 0) (pe_ix ix_seq (pv 2) (pe_un un_neg (pe_int)) (fun _ _ => rfl)) (fun _ _ => rfl)) (pa_nil)))))) (pss_one (ps_ret (pv 2))))
theorem d_l_cell_at (T : TF A mg)  {f : Addr} {fd : FuncData} (F : FunD A.K "_law_cell_at" "_law_cell_at" (defArgs s_l_cell_at) (defBody s_l_cell_at) (defScope s_l_cell_at) [] [] f fd) : FnOk P w A.K mg base (L2.CX P w) 1 f fd a_l_cell_at (sp_l_cell_at A) := by
  refine F.ok (k := 0) sc_l_cell_at (fun vs H Q E h => ?_) (fun cdv A2 outer s H vs Q E hr h => ⟨t_l_cell_at A E, ?_, p_l_cell_at A  h⟩)
  · unfold sp_l_cell_at at h
    (repeat (obtain ⟨_, h⟩ := h)); subst_vars; rfl
  · exact pss_cons (ps_if (pt_cmpR op_lt (pv 1) (pe_callB call_lenG (by rfl) T.len_ (by decide +kernel) (pa_cons (pv 0) (pa_nil))) (nomark _)) (pss_one (ps_ret (pe_ix ix_seq (pv 0) (pv 1) (fun _ _ => rfl)))) (pss_nil)) (pss_one (ps_ret (pe_int)))
theorem d_l_whole (T : TF A mg)  {f : Addr} {fd : FuncData} (F : FunD A.K "_law_whole" "_law_whole" (defArgs s_l_whole) (defBody s_l_whole) (defScope s_l_whole) [] [] f fd) : FnOk P w A.K mg base (L2.CX P w) 1 f fd a_l_whole (sp_l_whole A) := by
  refine F.ok (k := 0) sc_l_whole (fun vs H Q E h => ?_) (fun cdv A2 outer s H vs Q E hr h => ⟨t_l_whole A E, ?_, p_l_whole A  h⟩)
  · unfold sp_l_whole at h
    (repeat (obtain ⟨_, h⟩ := h)); subst_vars; rfl
  · exact pss_one (ps_ret (pe_and (pe_callB call_isi (by rfl) T.isinstance_ (by decide +kernel) (pa_cons (pv 0) (pa_cons (pe_bltn (by rfl) T.int_ (by decide +kernel) rfl) (pa_nil)))) (pe_one (pe_not (pe_callB call_isi (by rfl) T.isinstance_ (by decide +kernel) (pa_cons (pv 0) (pa_cons (pe_bltn (by rfl) T.bool_ (by decide +kernel) rfl) (pa_nil))))))))
theorem d_l_wood (T : TF A mg)  {f : Addr} {fd : FuncData} (F : FunD A.K "_law_wood" "_law_wood" (defArgs s_l_wood) (defBody s_l_wood) (defScope s_l_wood) [] [] f fd) {f_l_cell_at : Addr} {fd_l_cell_at : FuncData} (G_l_cell_at : FnAt P w A.K mg base "_law_cell_at" 1 a_l_cell_at (sp_l_cell_at A) f_l_cell_at fd_l_cell_at) : FnOk P w A.K mg base (L2.CX P w) 2 f fd a_l_wood (sp_l_wood A) := by
  refine F.ok (k := 1) sc_l_wood (fun vs H Q E h => ?_) (fun cdv A2 outer s H vs Q E hr h => ⟨t_l_wood A E, ?_, p_l_wood A  h⟩)
  · unfold sp_l_wood at h
    (repeat (obtain ⟨_, h⟩ := h)); subst_vars; rfl
  · have hr_1 := hr.mono (show 1 ≤ 1 by decide)
    exact pss_cons (ps_set (i := 1) sc_l_wood.nd rfl (Or.inr rfl) (pe_ix ix_seq (pe_lst (pa_cons (pe_int) (pa_cons (pe_int) (pa_cons (pe_int) (pa_cons (pe_op op_pow (pe_int) (pe_int)) (pa_nil)))))) (pe_op op_mod (pe_op op_fdiv (pe_call G_l_cell_at.ok hr_1 (by rfl) G_l_cell_at.mg G_l_cell_at.kp G_l_cell_at.b .nil (passL) (pa_cons (pv 0) (pa_cons (pe_int) (pa_nil)))) (pe_int)) (pe_int)) (fun _ _ => rfl))) (pss_cons (ps_set (i := 2) sc_l_wood.nd rfl (Or.inl rfl) (pe_op op_add3 (pe_int) (pe_op op_mod (pe_call G_l_cell_at.ok hr_1 (by rfl) G_l_cell_at.mg G_l_cell_at.kp G_l_cell_at.b .nil (passL) (pa_cons (pv 0) (pa_cons (pe_int) (pa_nil)))) (pe_int)))) (pss_cut (ps_if (pt_cmpR (op_eqG hr.units) (pe_op op_mod (pe_op op_fdiv (pe_call G_l_cell_at.ok hr_1 (by rfl) G_l_cell_at.mg G_l_cell_at.kp G_l_cell_at.b .nil (passL) (pa_cons (pv 0) (pa_cons (pe_int) (pa_nil)))) (pe_int)) (pe_int)) (pe_int) (nomark _)) (pss_one (ps_set (i := 2) sc_l_wood.nd rfl (Or.inl rfl) (pe_op op_add3 (pv 2) (pe_int)))) (pss_nil)) (pss_cut (ps_if (pt_cmpR (op_eqG hr.units) (pe_op op_mod (pe_op op_fdiv (pe_call G_l_cell_at.ok hr_1 (by rfl) G_l_cell_at.mg G_l_cell_at.kp G_l_cell_at.b .nil (passL) (pa_cons (pv 0) (pa_cons (pe_int) (pa_nil)))) (pe_int)) (pe_int)) (pe_int) (nomark _)) (pss_one (ps_set (i := 2) sc_l_wood.nd rfl (Or.inl rfl) (pe_op op_add3 (pv 2) (pe_int)))) (pss_nil)) (pss_cons (ps_set (i := 3) sc_l_wood.nd rfl (Or.inr rfl) (pe_ix ix_seq (pe_lst (pa_cons (pe_int) (pa_cons (pe_int) (pa_nil)))) (pe_op op_mod (pe_op op_fdiv (pe_call G_l_cell_at.ok hr_1 (by rfl) G_l_cell_at.mg G_l_cell_at.kp G_l_cell_at.b .nil (passL) (pa_cons (pv 0) (pa_cons (pe_int) (pa_nil)))) (pe_int)) (pe_int)) (fun _ _ => rfl))) (pss_cons (ps_setLc (i := 4) (own := [("_law_k", 5)]) (g := gName 5) (tt := tYes) rfl sc_l_wood.nd rfl rfl (sw_true rfl rfl rfl (by decide +kernel)) (pi_range1 rfl T.range_ (pa_cons (pv 2) (pa_nil))) (blkOk_by (own := [("_law_k", 5)]) (N := n_l_wood) (sc := defScope s_l_wood) (by decide +kernel)) (fun _ _ _ _ _ => pg_name (i := 5) sc_l_wood.nd rfl (Or.inl rfl)) (fun _ _ _ _ _ => pts_nil) (fun _ _ _ _ _ => pe_op op_add3 (pv 1) (pe_op op_mul (pv 3) (pe_op op_mod (pe_op op_add3 (pe_op op_mul (pe_int) (pv 5)) (pe_call G_l_cell_at.ok hr_1 (by rfl) G_l_cell_at.mg G_l_cell_at.kp G_l_cell_at.b .nil (passL) (pa_cons (pv 0) (pa_cons (pe_int) (pa_nil))))) (pe_int))))) (pss_cons (ps_set (i := 6) sc_l_wood.nd rfl (Or.inl rfl) (pe_lst (pa_cons (pe_non) (pa_nil)))) (pss_cons (ps_for (passes_of rfl) rfl (pi_range2 rfl T.range_ (pa_cons (pe_int) (pa_cons (pv 2) (pa_nil)))) (pg_name (i := 5) sc_l_wood.nd rfl (Or.inl rfl)) (pss_cons (ps_set (i := 7) sc_l_wood.nd rfl (Or.inl rfl) (pe_call G_l_cell_at.ok hr_1 (by rfl) G_l_cell_at.mg G_l_cell_at.kp G_l_cell_at.b .nil (passL) (pa_cons (pv 0) (pa_cons (pe_op op_add3 (pe_int) (pv 5)) (pa_nil))))) (pss_one (ps_if (pt_cmpR (op_eqG hr.units) (pe_op op_mod (pv 7) (pe_int)) (pe_int) (nomark _)) (pss_one (ps_expr (pe_bm PySem.F.plainAttrs_list PySem.F.slot_list_append PySem.F.type_list_append mt_append (pv 6) (pa_cons (pe_non) (pa_nil))))) (pss_one (ps_if (pt_cmpR op_lt (pe_op op_mod (pv 7) (pe_int)) (pe_int) (nomark _)) (pss_one (ps_expr (pe_bm PySem.F.plainAttrs_list PySem.F.slot_list_append PySem.F.type_list_append mt_append (pv 6) (pa_cons (pe_ix ix_seq (pv 4) (pe_op op_sub (pv 5) (pe_int)) (fun _ _ => rfl)) (pa_nil))))) (pss_one (ps_expr (pe_bm PySem.F.plainAttrs_list PySem.F.slot_list_append PySem.F.type_list_append mt_append (pv 6) (pa_cons (pe_ix ix_seq (pv 4) (pe_op op_mod (pe_op op_fdiv (pv 7) (pe_int)) (pv 5)) (fun _ _ => rfl)) (pa_nil))))))))))) (pss_cons (ps_setLc (i := 8) (own := [("_law_k", 5)]) (g := gName 5) (tt := tYes) rfl sc_l_wood.nd rfl rfl (sw_true rfl rfl rfl (by decide +kernel)) (pi_range1 rfl T.range_ (pa_cons (pv 2) (pa_nil))) (blkOk_by (own := [("_law_k", 5)]) (N := n_l_wood) (sc := defScope s_l_wood) (by decide +kernel)) (fun _ _ _ _ _ => pg_name (i := 5) sc_l_wood.nd rfl (Or.inl rfl)) (fun _ _ _ _ _ => pts_nil) (fun _ _ _ _ _ => pv 5)) (pss_cut (ps_if (pt_cmpR (op_eqG hr.units) (pe_op op_mod (pe_call G_l_cell_at.ok hr_1 (by rfl) G_l_cell_at.mg G_l_cell_at.kp G_l_cell_at.b .nil (passL) (pa_cons (pv 0) (pa_cons (pe_int) (pa_nil)))) (pe_int)) (pe_int) (nomark _)) (pss_one (ps_expr (pe_bm0 PySem.F.plainAttrs_list PySem.F.slot_list_reverse PySem.F.type_list_reverse mt_reverse (pv 8)))) (pss_nil)) (pss_cons (ps_set (i := 9) sc_l_wood.nd rfl (Or.inl rfl) (pe_dnewK)) (pss_cons (ps_for (passes_of rfl) rfl (pi_list (pv 8)) (pg_name (i := 5) sc_l_wood.nd rfl (Or.inl rfl)) (pss_one (ps_dput (hu_of hr) (pv 9) (pe_ix ix_seq (pv 4) (pv 5) (fun _ _ => rfl)) (pe_ix ix_seq (pv 6) (pv 5) (fun _ _ => rfl)) rfl))) (pss_one (ps_ret (pv 9))))))))))))))
theorem d_l_law (T : TF A mg)  {f : Addr} {fd : FuncData} (F : FunD A.K "law" "law" (defArgs s_l_law) (defBody s_l_law) (defScope s_l_law) [] [] f fd) {f_l_wood : Addr} {fd_l_wood : FuncData} (G_l_wood : FnAt P w A.K mg base "_law_wood" 2 a_l_wood (sp_l_wood A) f_l_wood fd_l_wood) {f_chain_of : Addr} {fd_chain_of : FuncData} (G_chain_of : FnAt P w A.K mg base "chain_of" 1 a_chain_of (sp_chain_of A) f_chain_of fd_chain_of) {f_l_cell_at : Addr} {fd_l_cell_at : FuncData} (G_l_cell_at : FnAt P w A.K mg base "_law_cell_at" 1 a_l_cell_at (sp_l_cell_at A) f_l_cell_at fd_l_cell_at) {f_l_whole : Addr} {fd_l_whole : FuncData} (G_l_whole : FnAt P w A.K mg base "_law_whole" 1 a_l_whole (sp_l_whole A) f_l_whole fd_l_whole) : FnOk P w A.K mg base CX0 3 f fd a_l_law (sp_l_law A) := by
  refine F.ok (k := 2) sc_l_law (fun vs H Q E h => ?_) (fun cdv A2 outer s H vs Q E hr h => ⟨t_l_law A E, ?_, p_l_law A  h⟩)
  · unfold sp_l_law at h
    (repeat (obtain ⟨_, h⟩ := h)); subst_vars; rfl
  · have hr_1 := hr.mono (show 1 ≤ 2 by decide)
    have hr_2 := hr.mono (show 2 ≤ 2 by decide)
    exact pss_cons (ps_set (i := 1) sc_l_law.nd rfl (Or.inl rfl) (pe_call G_l_wood.ok hr_2 (by rfl) G_l_wood.mg G_l_wood.kp G_l_wood.b .nil (passL) (pa_cons (pv 0) (pa_nil)))) (pss_cons (ps_set (i := 2) sc_l_law.nd rfl (Or.inl rfl) (pe_callTy (call_listG rfl) (by rfl) T.list_ (by decide +kernel) (pa_cons (pv 1) (pa_nil)))) (pss_cons (ps_set (i := 3) sc_l_law.nd rfl (Or.inl rfl) (pe_ix ix_seq (pv 2) (pe_op op_mod (pe_call G_l_cell_at.ok hr_1 (by rfl) G_l_cell_at.mg G_l_cell_at.kp G_l_cell_at.b .nil (passL) (pa_cons (pv 0) (pa_cons (pe_int) (pa_nil)))) (pe_callB call_lenG (by rfl) T.len_ (by decide +kernel) (pa_cons (pv 2) (pa_nil)))) (fun _ _ => rfl))) (pss_cons (ps_set (i := 4) sc_l_law.nd rfl (Or.inl rfl) (pe_callTy call_dictD (by rfl) T.dict_ (by decide +kernel) (pa_cons (pv 1) (pa_nil)))) (pss_cons (ps_set (i := 5) sc_l_law.nd rfl (Or.inl rfl) (pe_call G_chain_of.ok hr_1 (by rfl) G_chain_of.mg G_chain_of.kp G_chain_of.b .nil (passL) (pa_cons (pv 4) (pa_cons (pv 3) (pa_nil))))) (pss_cons (ps_if (PW.pt (pw_or (pt_cmpR (op_neG hr.units) (pv 4) (pv 1) (nomark _)) (pw_or1 (pt_cmpR (op_neG hr.units) (pe_callTy (call_listG rfl) (by rfl) T.list_ (by decide +kernel) (pa_cons (pv 4) (pa_nil))) (pv 2) (nomark _))))) (pss_one (ps_ret (pe_bl))) (pss_nil)) (pss_cons (ps_if (PW.pt (pw_or (pt_not (pt_val (pe_callB call_isi (by rfl) T.isinstance_ (by decide +kernel) (pa_cons (pv 5) (pa_cons (pe_bltn (by rfl) T.list_ (by decide +kernel) rfl) (pa_nil)))))) (pw_or1 (pt_cmpR (op_eqG hr.units) (pv 5) (pe_lst (pa_nil)) (nomark _))))) (pss_one (ps_ret (pe_bl))) (pss_nil)) (pss_cons (ps_set (i := 6) sc_l_law.nd rfl (Or.inl rfl) (pv 3)) (pss_cons (ps_for (passes_of rfl) rfl (pi_list (pv 5)) (pg_name (i := 7) sc_l_law.nd rfl (Or.inl rfl)) (pss_cons (ps_if (PW.pt (pw_or (pt_cmp (pc_isN (pv 6))) (pw_or (pt_not (pt_val (pe_call G_l_whole.ok hr_1 (by rfl) G_l_whole.mg G_l_whole.kp G_l_whole.b .nil (passL) (pa_cons (pv 7) (pa_nil))))) (pw_or1 (pt_cmpR (op_neG hr.units) (pv 7) (pv 6) (nomark _)))))) (pss_one (ps_ret (pe_bl))) (pss_nil)) (pss_one (ps_set (i := 6) sc_l_law.nd rfl (Or.inl rfl) (pe_dget (hu_of hr) (pv 1) (pv 6) (fun _ _ => rfl)))))) (pss_one (ps_ret (pe_cmp (pc_isN (pv 6)))))))))))))
end
/-! ### the head -/
def dd_chain_of : He.DefD := ⟨("chain_of", none), "chain_of", "chain_of", defArgs s_chain_of, defBody s_chain_of, defScope s_chain_of, [], []⟩
def dd_l_cell_at : He.DefD := ⟨("_law_cell_at", none), "_law_cell_at", "_law_cell_at", defArgs s_l_cell_at, defBody s_l_cell_at, defScope s_l_cell_at, [], []⟩
def dd_l_whole : He.DefD := ⟨("_law_whole", none), "_law_whole", "_law_whole", defArgs s_l_whole, defBody s_l_whole, defScope s_l_whole, [], []⟩
def dd_l_wood : He.DefD := ⟨("_law_wood", none), "_law_wood", "_law_wood", defArgs s_l_wood, defBody s_l_wood, defScope s_l_wood, [], []⟩
def dd_l_law : He.DefD := ⟨("law", none), "law", "law", defArgs s_l_law, defBody s_l_law, defScope s_l_law, [], []⟩
def fn : List He.DefD := [dd_chain_of, dd_l_cell_at, dd_l_whole, dd_l_wood, dd_l_law]
def fa : List He.Fa := [.free "bool", .free "dict", .free "int", .free "isinstance", .free "len", .free "list", .free "range", .glo "chain_of", .glo "_law_cell_at", .glo "_law_whole", .glo "_law_wood", .glo "law"]
def ex (K : PySem.W.Frag) : Bool := true
def loose0 : List Str := ["chain_of", "_law_cell_at", "_law_whole", "_law_wood"]
def loose : List Str := loose0
abbrev R : PySem.W.OpenRow := PySem.W.OpenLaw.row PySem.Challenge.rw_packdelta_k04_chains
abbrev hk : PySem.W.Hook := hookP 5 fa fn ex
def ob (s : PySem.W.SharedT) : He.AlD × Bool := obsP 5 fa fn ex (HandSHeadRun.getT s)
theorem ob_eq (s : PySem.W.SharedT) : ob s = hk.obs s.abs := obsP_eq (HandSHeadRun.getT_eq s)
theorem run (w : World) : HandSHeadRun.RunEq R (PySem.W.view R.prog [6]) hk ob 4000 loose w := by
  intro os
  open PyProof.Rows in kernel_rfl
abbrev adOf (K : PySem.W.Frag) : Ad := ⟨K, 0, 0, 0, 0, 0, 0, 0, 0⟩
theorem facts {P : Program} {w : World} {K : PySem.W.Frag} {h : Heap} {mg : Str → Option Value} {f : Addr} (X : K.In h) (G : h.Ns mainGlobals mg) (hfa : mg ("law" : Str) = some (.ref f)) (c : He.SaysD fa fn K) (cx : ex K = true) :
    ∃ fd : FuncData, (∀ (s : Shared) (v : Value), BindsTo s fd ⟨[v], []⟩ [("_law_script", v)]) ∧ ∀ base : Heap, K.In base → base.Ns mainGlobals mg → FnOk P w K mg base CX0 3 f fd ["_law_script"] (sp_l_law (adOf K)) := by
  obtain ⟨fd_chain_of, F_chain_of⟩ := c.def_ 0 (d := dd_chain_of) rfl
  obtain ⟨fd_l_cell_at, F_l_cell_at⟩ := c.def_ 1 (d := dd_l_cell_at) rfl
  obtain ⟨fd_l_whole, F_l_whole⟩ := c.def_ 2 (d := dd_l_whole) rfl
  obtain ⟨fd_l_wood, F_l_wood⟩ := c.def_ 3 (d := dd_l_wood) rfl
  obtain ⟨fd_l_law, F_l_law⟩ := c.def_ 4 (d := dd_l_law) rfl
  have e := hfa.symm.trans (He.glo_ok X G (c.fact 11 (f := .glo "law") rfl))
  cases e
  have T : TF (adOf K) mg := ⟨by exact He.free_ok X G (c.fact 0 (f := .free "bool") rfl), by exact He.free_ok X G (c.fact 1 (f := .free "dict") rfl), by exact He.free_ok X G (c.fact 2 (f := .free "int") rfl), by exact He.free_ok X G (c.fact 3 (f := .free "isinstance") rfl), by exact He.free_ok X G (c.fact 4 (f := .free "len") rfl), by exact He.free_ok X G (c.fact 5 (f := .free "list") rfl), by exact He.free_ok X G (c.fact 6 (f := .free "range") rfl)⟩

  have b := FunD.bindsA (ps := ["_law_script"]) F_l_law fun _ _ _ _ _ _ us hl => match us, hl with | [_], _ => rfl
  refine ⟨fd_l_law, fun s v => b s [v] rfl, fun base _ _ => ?_⟩
  have G_chain_of : FnAt P w K mg base "chain_of" 1 a_chain_of (sp_chain_of (adOf K)) _ fd_chain_of := ⟨d_chain_of T  F_chain_of , He.glo_ok X G (c.fact 7 (f := .glo "chain_of") rfl), F_chain_of.kp, FunD.bindsN F_chain_of fun _ _ _ _ _ _ us hl => match us, hl with | [_, _], _ => rfl⟩
  have G_l_cell_at : FnAt P w K mg base "_law_cell_at" 1 a_l_cell_at (sp_l_cell_at (adOf K)) _ fd_l_cell_at := ⟨d_l_cell_at T  F_l_cell_at , He.glo_ok X G (c.fact 8 (f := .glo "_law_cell_at") rfl), F_l_cell_at.kp, FunD.bindsN F_l_cell_at fun _ _ _ _ _ _ us hl => match us, hl with | [_, _], _ => rfl⟩
  have G_l_whole : FnAt P w K mg base "_law_whole" 1 a_l_whole (sp_l_whole (adOf K)) _ fd_l_whole := ⟨d_l_whole T  F_l_whole , He.glo_ok X G (c.fact 9 (f := .glo "_law_whole") rfl), F_l_whole.kp, FunD.bindsN F_l_whole fun _ _ _ _ _ _ us hl => match us, hl with | [_], _ => rfl⟩
  have G_l_wood : FnAt P w K mg base "_law_wood" 2 a_l_wood (sp_l_wood (adOf K)) _ fd_l_wood := ⟨d_l_wood T  F_l_wood G_l_cell_at, He.glo_ok X G (c.fact 10 (f := .glo "_law_wood") rfl), F_l_wood.kp, FunD.bindsN F_l_wood fun _ _ _ _ _ _ us hl => match us, hl with | [_], _ => rfl⟩
  exact d_l_law T  F_l_law G_l_wood G_chain_of G_l_cell_at G_l_whole
end Pk
open PySem PySem.W PySem.Calls PyProof.Rows
set_option maxHeartbeats 0 in
theorem PySem.Challenge.cw_packdelta_k04_chains_holds : PySem.Challenge.rw_packdelta_k04_chains.Holds := by
  w_on; o_law
  refine HandSHeadRun.head_any (r := OpenLaw.row PySem.Challenge.rw_packdelta_k04_chains) (q := view (OpenLaw.row PySem.Challenge.rw_packdelta_k04_chains).prog [6]) (H := Pk.hk) (ob := Pk.ob) (M := 4000) (loose := Pk.loose)
    (d := HandSHeadRun.topDef (OpenLaw.row PySem.Challenge.rw_packdelta_k04_chains).prog 6) (kwd := []) Pk.ob_eq (by kernel_rfl) (fun s => by kernel_rfl) Pk.run (by kernel_rfl) (by kernel_rfl) (by kernel_rfl) (by rfl)
    (by first | assumption | decide +kernel) (by decide +kernel) ⟨rfl, rfl, rfl, rfl, rfl, by decide +kernel⟩ ?hw ?hc
  case hw => w_witness2
  case hc =>
    refine L2.walk_ofE (l := PySem.Challenge.rw_packdelta_k04_chains) (n := 63) (k := 3) (x := "_law_script") (CX := L2.CX0) rfl (by decide) (by kernel_rfl) ⟨rfl, by decide, by decide⟩ ?F ?cx
    case cx => exact fun _ _ _ _ z => z
    intro w mg fa h Y G hmg0
    obtain ⟨K, KX, c, cx⟩ := Y
    have hmg : mg ("law" : PySem.Str) = some (.ref fa) := by
      have e : (HandSHeadRun.topDef (OpenLaw.row PySem.Challenge.rw_packdelta_k04_chains).prog 6).name = ("law" : PySem.Str) := by kernel_rfl
      rw [← e]
      exact hmg0
    obtain ⟨fd, hb, hF⟩ := Pk.facts (P := (PySem.Challenge.rw_packdelta_k04_chains).prog) (w := w) KX G hmg c cx
    exact ⟨K, fd, Pk.sp_l_law (Pk.adOf K), KX, hb, fun H a ns hl _ hS => Pk.end_law a ns hl hS (fun _ => rfl), hF⟩

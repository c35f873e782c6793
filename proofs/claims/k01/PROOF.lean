import PyProof.Rows.All
import Wide.All
import OpenK.AllK
import Wide.FinOn
import KE.KStateDown
import HandS.ForMost
import HandS.Exc
import HandS.TryOnly
import HandS.ExcOwn
import HandS.WordsExc
import HandS.TryMany
import HandS.IsInst
import HandS.ExcIs
import HandS.More
import HandS.DeepEq
import HandS.DictComp
import HandS.Walk
import HandS.Codes
import HandS.SuiteRaise
import HandS.Defaults
import HandS.HeadHook2
import HandS.Head0
import HandS.Head1
import HandS.Head2
import HandS.HeadEnd
import PySem.Challenge.RW_packdelta_k01_a_change_done
set_option Elab.async false
set_option linter.all false
set_option maxRecDepth 100000
set_option maxHeartbeats 4000000
/-! PkA: one lemma for each reading, so that a reading is walked by its head. -/
namespace Pk
open PySem PySem.Spec L2
open C8 (tCut pss_cut)

/-- the addresses that a row's text has, by name -/
structure Ad where
  K : PySem.W.Frag
  cPack : Addr
  cBadBound : Addr
  cBadRows : Addr
  cInRing : Addr
  cNoFit : Addr
  cNoVersion : Addr
  cTooFar : Addr
  cPackError : Addr

/-! ### texts as lists of signs -/
abbrev S (l : List Nat) : Str := ⟨l.toArray⟩
theorem S_len (l : List Nat) : (S l).length = l.length := by simp [Str.length]
theorem S_app (a b : List Nat) : (S a) ++ (S b) = S (a ++ b) := by
  show Str.append (S a) (S b) = _
  simp [Str.append]
theorem S_inj {a b : List Nat} (h : S a = S b) : a = b := by
  have := congrArg (fun s : Str => s.cps.toList) h
  simpa using this
theorem S_of (z : Str) : ∃ l, z = S l := ⟨z.cps.toList, by cases z; simp⟩
/-- signs that there are -/
abbrev Ok (l : List Nat) : Prop := ∀ c ∈ l, c < 1114112
theorem lit (s : String) (n : Nat) (h : (Str.ofString s).length = n) (h2 : ((Str.ofString s).cps.toList.all fun c => decide (c < 1114112)) = true) : ∃ l, Str.ofString s = S l ∧ l.length = n ∧ Ok l := by
  obtain ⟨l, e⟩ := S_of (Str.ofString s)
  refine ⟨l, e, by rw [← S_len, ← e, h], fun c hc => ?_⟩
  rw [e] at h2
  have h3 : ∀ x, x ∈ l → x < 1114112 := by simpa using h2
  exact h3 c hc
theorem S_lit (s : String) (l : List Nat) (h : Str.ofString s = S l) : (Str.ofString s) = S l := h
def cutL (l : List Nat) (lo hi : Option Int) : List Nat := (l.drop (HT.sIx l.length 0 lo)).take (HT.sIx l.length l.length hi - HT.sIx l.length 0 lo)
theorem S_cut (l : List Nat) (lo hi : Option Int) : cutS (S l) lo hi = S (cutL l lo hi) := by
  unfold cutS cutL
  rw [S_len]

/-! ### operators of several kinds -/
def rAdd3 : R2 := fun x y H Q => (∃ i j, x = .int i ∧ y = .int j ∧ Q (.int (i + j)) H) ∨ (∃ i j, x = .str i ∧ y = .str j ∧ i.length + j.length ≤ sizeLine ∧ Q (.str (i ++ j)) H) ∨ rCat x y H Q
theorem op_add3 {X : Cx} : OpR X (binaryOp .Add) rAdd3 := OpR.or op_add (OpR.or op_add_str op_cat)
def rSub : R2 := rI0 fun i j => .int (i - j)
def rMul : R2 := rI CMul fun i j => .int (i * j)
def rDiv : R2 := rI CDiv fun i j => .int (i / j)
def rMod : R2 := rI (fun _ j => 0 < j) fun i j => .int (i % j)
def rPow : R2 := rI CPow fun i j => .int (i ^ j.toNat)
def rNeg : V → Hp → VK → Prop := rU fun i => .int (-i)
def rLt : R2 := rI0 fun i j => .bl (decide (i < j))
def rLe : R2 := rI0 fun i j => .bl (decide (i ≤ j))
def rGt : R2 := rI0 fun i j => .bl (decide (j < i))
def rGe : R2 := rI0 fun i j => .bl (decide (j ≤ i))
def rEqG (K : PySem.W.Frag) : R2 := fun x y H Q => rEq x y H Q ∨ rEqD K x y H Q ∨ rEqDA x y H Q ∨ rEqV K x y H Q
def rNeG (K : PySem.W.Frag) : R2 := fun x y H Q => rNe x y H Q ∨ rNeD K x y H Q ∨ rNeDA x y H Q
theorem op_eqG {X : Cx} (hu : X.A.units + 64 < cLine) : OpR X (compareOp .Eq) (rEqG X.K) := OpR.or op_eq (OpR.or (op_eqD hu) (OpR.or (op_eq_dictA (by omega)) (op_eqV hu)))
theorem op_neG {X : Cx} (hu : X.A.units + 64 < cLine) : OpR X (compareOp .NotEq) (rNeG X.K) := OpR.or op_ne (OpR.or (op_neD hu) (op_ne_dictA (by omega)))
def rSl2 (K : PySem.W.Frag) : V → Option Int → Option Int → Hp → VK → Prop := fun x lo hi H Q => rSlL K x lo hi H Q ∨ rSlS x lo hi H Q
theorem sl_2 {X : Cx} : SlR X (rSl2 X.K) := SlR.or sl_list sl_str
theorem callR_or {X : Cx} {f : Value} {r r' : List V → Hp → VK → Prop} (h : CallR X f r) (h' : CallR X f r') : CallR X f (fun xs H Q => r xs H Q ∨ r' xs H Q) := by
  intro pins s σ H xs us Q I rv hw
  rcases hw with hw | hw
  · exact h pins s σ H xs us Q I rv hw
  · exact h' pins s σ H xs us Q I rv hw
def rLenG (K : PySem.W.Frag) : List V → Hp → VK → Prop := fun xs H Q => (∃ p ys, xs = [.ref p] ∧ (SqL K H p ys ∨ SqT K H p ys) ∧ Q (.int ys.length) H) ∨ (∃ z, xs = [.str z] ∧ z.length ≤ sizeLine ∧ Q (.int z.length) H) ∨ (∃ a kvs, xs = [V.ref a] ∧ H a = some (.dK kvs) ∧ Q (.int kvs.length) H)
theorem call_lenG {X : Cx} : CallR X (.builtin "len") (rLenG X.K) := callR_or call_len_seq (callR_or call_len_str call_lenD)
def rListG (K : PySem.W.Frag) : List V → Hp → VK → Prop := fun xs H Q => (∃ p ys, xs = [.ref p] ∧ (SqL K H p ys ∨ SqT K H p ys) ∧ ∀ l, H l = none → Q (.ref l) (upd H l (.lst ys))) ∨ (∃ (a : Addr) (kvs : List (Key × V)), xs = [.ref a] ∧ Rd H a (.dK kvs) ∧ ∀ p, H p = none → Q (.ref p) (upd H p (.lst (kvs.map fun kv => kV kv.1))))
theorem call_listG {X : Cx} (hc : X.calm = true) : CallR X (.type "list") (rListG X.K) := callR_or call_list_of (call_listD hc)
def rDictD : List V → Hp → VK → Prop := fun xs H Q => ∃ (a : Addr) (kvs : List (Key × V)), xs = [.ref a] ∧ Rd H a (.dK kvs) ∧ ∀ p, H p = none → Q (.ref p) (upd H p (.dK kvs))
def rSortedDI : List V → Hp → VK → Prop := fun xs H Q => ∃ (a : Addr) (kvs : List (Key × V)) (ks : List Int), xs = [.ref a] ∧ Rd H a (.dK kvs) ∧ kvs.map (·.1) = ks.map Sum.inl ∧ ks.length < 64 ∧ ∀ (ys : List Int) (p : Addr), ys.Perm ks → ys.Pairwise (· ≤ ·) → H p = none → Q (.ref p) (upd H p (.lst (ys.map V.int)))
def rStrI : List V → Hp → VK → Prop := fun xs H Q => ∃ i, xs = [.int i] ∧ i.natAbs.log2 < 1920 ∧ Q (.str (toString i)) H
def rInt1 : List V → Hp → VK → Prop := fun xs H Q => (∃ i, xs = [.int i] ∧ Q (.int i) H) ∨ ∃ k, xs = [.bl k] ∧ Q (.int (if k then 1 else 0)) H
def rMax2 : List V → Hp → VK → Prop := fun xs H Q => ∃ i j, xs = [.int i, .int j] ∧ Q (.int (if j > i then j else i)) H
def rMin2 : List V → Hp → VK → Prop := fun xs H Q => ∃ i j, xs = [.int i, .int j] ∧ Q (.int (if j < i then j else i)) H
def rJoin (K : PySem.W.Frag) : V → List V → Hp → VK → Prop := fun x xs H Q => ∃ a p, ∃ ys : List Str, x = .str a ∧ xs = [.ref p] ∧ (SqL K H p (ys.map V.str) ∨ SqT K H p (ys.map V.str)) ∧ (ys.map (·.length)).sum + ys.length * a.length ≤ 16777216 ∧ Q (.str (Txt.join a ys)) H
def tRaise (C : Addr) (E : XK) : TS := fun _ _ H => E (.ref C) none H

/-! ### readings by their heads; the ends in the form ⟨nx, rt, bk, ct⟩ -/
section
variable {t u : TS} {nx : St → Hp → Prop} {rt : VK} {bk ct : St → Hp → Prop} {σ : St} {H : Hp} {te ta tb : TE} {g : TG} {tt tu : TT} {Q : VK} {QB : Bool → Hp → Prop} {QA : List V → Hp → Prop}
theorem r_seq (h : t ⟨u ⟨nx, rt, bk, ct⟩, rt, bk, ct⟩ σ H) : tSeq t u ⟨nx, rt, bk, ct⟩ σ H := h
theorem r_cut (Mid : St → Hp → Prop) (h : t ⟨Mid, rt, bk, ct⟩ σ H) (h2 : ∀ σ' H', Mid σ' H' → u ⟨nx, rt, bk, ct⟩ σ' H') : tCut t u ⟨nx, rt, bk, ct⟩ σ H := ⟨Mid, h, h2⟩
theorem r_seqD {D : Ends} (h : t ⟨u D, D.rt, D.bk, D.ct⟩ σ H) : tSeq t u D σ H := h
theorem r_next (h : nx σ H) : tNext ⟨nx, rt, bk, ct⟩ σ H := h
theorem r_brk (h : bk σ H) : tBreak ⟨nx, rt, bk, ct⟩ σ H := h
theorem r_asg (h : te σ H fun x H1 => g x σ H1 nx) : tAsg te g ⟨nx, rt, bk, ct⟩ σ H := h
theorem r_drop (h : te σ H fun _ H1 => nx σ H1) : tDrop te ⟨nx, rt, bk, ct⟩ σ H := h
theorem r_ret (h : te σ H rt) : tRet te ⟨nx, rt, bk, ct⟩ σ H := h
theorem r_ifS (h : tt σ H fun b H1 => if b = true then t ⟨nx, rt, bk, ct⟩ σ H1 else u ⟨nx, rt, bk, ct⟩ σ H1) : tIfS tt t u ⟨nx, rt, bk, ct⟩ σ H := h
theorem r_ite {b : Bool} {A B : Prop} (h1 : b = true → A) (h2 : b = false → B) : if b = true then A else B := by
  cases b
  · rw [if_neg Bool.false_ne_true]; exact h2 rfl
  · rw [if_pos rfl]; exact h1 rfl
theorem r_dec {p : Prop} [Decidable p] {A B : Prop} (h1 : p → A) (h2 : ¬ p → B) : if decide p = true then A else B := by
  by_cases h : p
  · rw [decide_eq_true h, if_pos rfl]; exact h1 h
  · rw [decide_eq_false h, if_neg Bool.false_ne_true]; exact h2 h
theorem r_ndec {p : Prop} [Decidable p] {A B : Prop} (h1 : ¬ p → A) (h2 : p → B) : if (!decide p) = true then A else B := by
  by_cases h : p
  · rw [decide_eq_true h]; exact h2 h
  · rw [decide_eq_false h]; exact h1 h
theorem r_nT {A B : Prop} (h : B) : if (!true) = true then A else B := by
  rw [if_neg (by decide)]; exact h
theorem r_nF {A B : Prop} (h : A) : if (!false) = true then A else B := by
  rw [if_pos (by decide)]; exact h
theorem r_raise {C : Addr} {E : XK} {D : Ends} (h : E (.ref C) none H) : tRaise C E D σ H := h
/-! tests -/
theorem r_test (h : te σ H fun x H' => ∃ k, x = .bl k ∧ QB k H') : tTest te σ H QB := h
theorem r_B (h : te σ H fun x H1 => ∃ c, x = .bl c ∧ QB c H1) : tB te σ H QB := h
theorem r_bl {b : Bool} (h : QB b H) : ∃ k, V.bl b = .bl k ∧ QB k H := ⟨b, rfl, h⟩
theorem r_and (h : tt σ H fun c H1 => if c = true then tu σ H1 QB else QB false H1) : tAnd tt tu σ H QB := h
theorem r_or (h : tt σ H fun c H1 => if c = true then QB true H1 else tu σ H1 QB) : tOr tt tu σ H QB := h
theorem r_not (h : tt σ H fun c H1 => QB (!c) H1) : tNot tt σ H QB := h
theorem r_isN (h : ta σ H fun x H1 => Q (.bl (decide (x = .non))) H1) : tIsN ta σ H Q := h
theorem r_notN (h : ta σ H fun x H1 => Q (.bl (!decide (x = .non))) H1) : tNotN ta σ H Q := h
/-! values -/
theorem r_var {i : Nat} {v : V} (e : σ[i]? = some (some v)) (h : Q v H) : tVar i σ H Q := ⟨v, e, h⟩
theorem r_c {v : V} (h : Q v H) : tC v σ H Q := h
theorem r_op {r : R2} (h : ta σ H fun x H1 => tb σ H1 fun y H2 => r x y H2 Q) : tOp r ta tb σ H Q := h
theorem r_un {r : V → Hp → VK → Prop} (h : ta σ H fun x H1 => r x H1 Q) : tUn r ta σ H Q := h
theorem r_nil (h : QA [] H) : tNil σ H QA := h
theorem r_cons {tr : TA} (h : ta σ H fun x H1 => tr σ H1 fun xs H2 => QA (x :: xs) H2) : tCons ta tr σ H QA := h
theorem r_andV (h : ta σ H fun x H1 => ∃ c, x = .bl c ∧ if c = true then tb σ H1 Q else Q (.bl false) H1) : tAndV ta tb σ H Q := h
theorem r_orV (h : ta σ H fun x H1 => ∃ c, x = .bl c ∧ if c = true then Q (.bl true) H1 else tb σ H1 Q) : tOrV ta tb σ H Q := h
theorem r_notV (h : ta σ H fun x H1 => ∃ c, x = .bl c ∧ Q (.bl (!c)) H1) : tNotV ta σ H Q := h
theorem r_ifE (h : tt σ H fun c H1 => if c = true then ta σ H1 Q else tb σ H1 Q) : tIf tt ta tb σ H Q := h
theorem r_blP {b : Bool} {P : Bool → Prop} (h : P b) : ∃ c, V.bl b = .bl c ∧ P c := ⟨b, rfl, h⟩
/-! stores to slots -/
theorem r_set {i : Nat} {v : V} {σ' : St} {K : St → Hp → Prop} (e : σ.set i (some v) = σ') (h : K σ' H) : gName i v σ H K := by
  show K (σ.set i (some v)) H
  rw [e]
  exact h
theorem r_v0 {v : V} {t : St} (h : Q v H) : tVar 0 (some v :: t) H Q := ⟨v, rfl, h⟩
theorem r_n0 {y : Option V} {v : V} {t : St} {F : St → Hp → Prop} (h : F (some v :: t) H) : gName 0 v (y :: t) H F := h
theorem r_v1 {x0 : Option V} {v : V} {t : St} (h : Q v H) : tVar 1 (x0 :: some v :: t) H Q := ⟨v, rfl, h⟩
theorem r_n1 {x0 : Option V} {y : Option V} {v : V} {t : St} {F : St → Hp → Prop} (h : F (x0 :: some v :: t) H) : gName 1 v (x0 :: y :: t) H F := h
theorem r_v2 {x0 x1 : Option V} {v : V} {t : St} (h : Q v H) : tVar 2 (x0 :: x1 :: some v :: t) H Q := ⟨v, rfl, h⟩
theorem r_n2 {x0 x1 : Option V} {y : Option V} {v : V} {t : St} {F : St → Hp → Prop} (h : F (x0 :: x1 :: some v :: t) H) : gName 2 v (x0 :: x1 :: y :: t) H F := h
theorem r_v3 {x0 x1 x2 : Option V} {v : V} {t : St} (h : Q v H) : tVar 3 (x0 :: x1 :: x2 :: some v :: t) H Q := ⟨v, rfl, h⟩
theorem r_n3 {x0 x1 x2 : Option V} {y : Option V} {v : V} {t : St} {F : St → Hp → Prop} (h : F (x0 :: x1 :: x2 :: some v :: t) H) : gName 3 v (x0 :: x1 :: x2 :: y :: t) H F := h
theorem r_v4 {x0 x1 x2 x3 : Option V} {v : V} {t : St} (h : Q v H) : tVar 4 (x0 :: x1 :: x2 :: x3 :: some v :: t) H Q := ⟨v, rfl, h⟩
theorem r_n4 {x0 x1 x2 x3 : Option V} {y : Option V} {v : V} {t : St} {F : St → Hp → Prop} (h : F (x0 :: x1 :: x2 :: x3 :: some v :: t) H) : gName 4 v (x0 :: x1 :: x2 :: x3 :: y :: t) H F := h
theorem r_v5 {x0 x1 x2 x3 x4 : Option V} {v : V} {t : St} (h : Q v H) : tVar 5 (x0 :: x1 :: x2 :: x3 :: x4 :: some v :: t) H Q := ⟨v, rfl, h⟩
theorem r_n5 {x0 x1 x2 x3 x4 : Option V} {y : Option V} {v : V} {t : St} {F : St → Hp → Prop} (h : F (x0 :: x1 :: x2 :: x3 :: x4 :: some v :: t) H) : gName 5 v (x0 :: x1 :: x2 :: x3 :: x4 :: y :: t) H F := h
theorem r_v6 {x0 x1 x2 x3 x4 x5 : Option V} {v : V} {t : St} (h : Q v H) : tVar 6 (x0 :: x1 :: x2 :: x3 :: x4 :: x5 :: some v :: t) H Q := ⟨v, rfl, h⟩
theorem r_n6 {x0 x1 x2 x3 x4 x5 : Option V} {y : Option V} {v : V} {t : St} {F : St → Hp → Prop} (h : F (x0 :: x1 :: x2 :: x3 :: x4 :: x5 :: some v :: t) H) : gName 6 v (x0 :: x1 :: x2 :: x3 :: x4 :: x5 :: y :: t) H F := h
theorem r_v7 {x0 x1 x2 x3 x4 x5 x6 : Option V} {v : V} {t : St} (h : Q v H) : tVar 7 (x0 :: x1 :: x2 :: x3 :: x4 :: x5 :: x6 :: some v :: t) H Q := ⟨v, rfl, h⟩
theorem r_n7 {x0 x1 x2 x3 x4 x5 x6 : Option V} {y : Option V} {v : V} {t : St} {F : St → Hp → Prop} (h : F (x0 :: x1 :: x2 :: x3 :: x4 :: x5 :: x6 :: some v :: t) H) : gName 7 v (x0 :: x1 :: x2 :: x3 :: x4 :: x5 :: x6 :: y :: t) H F := h
theorem r_v8 {x0 x1 x2 x3 x4 x5 x6 x7 : Option V} {v : V} {t : St} (h : Q v H) : tVar 8 (x0 :: x1 :: x2 :: x3 :: x4 :: x5 :: x6 :: x7 :: some v :: t) H Q := ⟨v, rfl, h⟩
theorem r_n8 {x0 x1 x2 x3 x4 x5 x6 x7 : Option V} {y : Option V} {v : V} {t : St} {F : St → Hp → Prop} (h : F (x0 :: x1 :: x2 :: x3 :: x4 :: x5 :: x6 :: x7 :: some v :: t) H) : gName 8 v (x0 :: x1 :: x2 :: x3 :: x4 :: x5 :: x6 :: x7 :: y :: t) H F := h
theorem r_v9 {x0 x1 x2 x3 x4 x5 x6 x7 x8 : Option V} {v : V} {t : St} (h : Q v H) : tVar 9 (x0 :: x1 :: x2 :: x3 :: x4 :: x5 :: x6 :: x7 :: x8 :: some v :: t) H Q := ⟨v, rfl, h⟩
theorem r_n9 {x0 x1 x2 x3 x4 x5 x6 x7 x8 : Option V} {y : Option V} {v : V} {t : St} {F : St → Hp → Prop} (h : F (x0 :: x1 :: x2 :: x3 :: x4 :: x5 :: x6 :: x7 :: x8 :: some v :: t) H) : gName 9 v (x0 :: x1 :: x2 :: x3 :: x4 :: x5 :: x6 :: x7 :: x8 :: y :: t) H F := h
theorem r_v10 {x0 x1 x2 x3 x4 x5 x6 x7 x8 x9 : Option V} {v : V} {t : St} (h : Q v H) : tVar 10 (x0 :: x1 :: x2 :: x3 :: x4 :: x5 :: x6 :: x7 :: x8 :: x9 :: some v :: t) H Q := ⟨v, rfl, h⟩
theorem r_n10 {x0 x1 x2 x3 x4 x5 x6 x7 x8 x9 : Option V} {y : Option V} {v : V} {t : St} {F : St → Hp → Prop} (h : F (x0 :: x1 :: x2 :: x3 :: x4 :: x5 :: x6 :: x7 :: x8 :: x9 :: some v :: t) H) : gName 10 v (x0 :: x1 :: x2 :: x3 :: x4 :: x5 :: x6 :: x7 :: x8 :: x9 :: y :: t) H F := h
theorem r_v11 {x0 x1 x2 x3 x4 x5 x6 x7 x8 x9 x10 : Option V} {v : V} {t : St} (h : Q v H) : tVar 11 (x0 :: x1 :: x2 :: x3 :: x4 :: x5 :: x6 :: x7 :: x8 :: x9 :: x10 :: some v :: t) H Q := ⟨v, rfl, h⟩
theorem r_n11 {x0 x1 x2 x3 x4 x5 x6 x7 x8 x9 x10 : Option V} {y : Option V} {v : V} {t : St} {F : St → Hp → Prop} (h : F (x0 :: x1 :: x2 :: x3 :: x4 :: x5 :: x6 :: x7 :: x8 :: x9 :: x10 :: some v :: t) H) : gName 11 v (x0 :: x1 :: x2 :: x3 :: x4 :: x5 :: x6 :: x7 :: x8 :: x9 :: x10 :: y :: t) H F := h
theorem r_v12 {x0 x1 x2 x3 x4 x5 x6 x7 x8 x9 x10 x11 : Option V} {v : V} {t : St} (h : Q v H) : tVar 12 (x0 :: x1 :: x2 :: x3 :: x4 :: x5 :: x6 :: x7 :: x8 :: x9 :: x10 :: x11 :: some v :: t) H Q := ⟨v, rfl, h⟩
theorem r_n12 {x0 x1 x2 x3 x4 x5 x6 x7 x8 x9 x10 x11 : Option V} {y : Option V} {v : V} {t : St} {F : St → Hp → Prop} (h : F (x0 :: x1 :: x2 :: x3 :: x4 :: x5 :: x6 :: x7 :: x8 :: x9 :: x10 :: x11 :: some v :: t) H) : gName 12 v (x0 :: x1 :: x2 :: x3 :: x4 :: x5 :: x6 :: x7 :: x8 :: x9 :: x10 :: x11 :: y :: t) H F := h
theorem r_v13 {x0 x1 x2 x3 x4 x5 x6 x7 x8 x9 x10 x11 x12 : Option V} {v : V} {t : St} (h : Q v H) : tVar 13 (x0 :: x1 :: x2 :: x3 :: x4 :: x5 :: x6 :: x7 :: x8 :: x9 :: x10 :: x11 :: x12 :: some v :: t) H Q := ⟨v, rfl, h⟩
theorem r_n13 {x0 x1 x2 x3 x4 x5 x6 x7 x8 x9 x10 x11 x12 : Option V} {y : Option V} {v : V} {t : St} {F : St → Hp → Prop} (h : F (x0 :: x1 :: x2 :: x3 :: x4 :: x5 :: x6 :: x7 :: x8 :: x9 :: x10 :: x11 :: x12 :: some v :: t) H) : gName 13 v (x0 :: x1 :: x2 :: x3 :: x4 :: x5 :: x6 :: x7 :: x8 :: x9 :: x10 :: x11 :: x12 :: y :: t) H F := h
theorem r_v14 {x0 x1 x2 x3 x4 x5 x6 x7 x8 x9 x10 x11 x12 x13 : Option V} {v : V} {t : St} (h : Q v H) : tVar 14 (x0 :: x1 :: x2 :: x3 :: x4 :: x5 :: x6 :: x7 :: x8 :: x9 :: x10 :: x11 :: x12 :: x13 :: some v :: t) H Q := ⟨v, rfl, h⟩
theorem r_n14 {x0 x1 x2 x3 x4 x5 x6 x7 x8 x9 x10 x11 x12 x13 : Option V} {y : Option V} {v : V} {t : St} {F : St → Hp → Prop} (h : F (x0 :: x1 :: x2 :: x3 :: x4 :: x5 :: x6 :: x7 :: x8 :: x9 :: x10 :: x11 :: x12 :: x13 :: some v :: t) H) : gName 14 v (x0 :: x1 :: x2 :: x3 :: x4 :: x5 :: x6 :: x7 :: x8 :: x9 :: x10 :: x11 :: x12 :: x13 :: y :: t) H F := h
theorem r_v15 {x0 x1 x2 x3 x4 x5 x6 x7 x8 x9 x10 x11 x12 x13 x14 : Option V} {v : V} {t : St} (h : Q v H) : tVar 15 (x0 :: x1 :: x2 :: x3 :: x4 :: x5 :: x6 :: x7 :: x8 :: x9 :: x10 :: x11 :: x12 :: x13 :: x14 :: some v :: t) H Q := ⟨v, rfl, h⟩
theorem r_n15 {x0 x1 x2 x3 x4 x5 x6 x7 x8 x9 x10 x11 x12 x13 x14 : Option V} {y : Option V} {v : V} {t : St} {F : St → Hp → Prop} (h : F (x0 :: x1 :: x2 :: x3 :: x4 :: x5 :: x6 :: x7 :: x8 :: x9 :: x10 :: x11 :: x12 :: x13 :: x14 :: some v :: t) H) : gName 15 v (x0 :: x1 :: x2 :: x3 :: x4 :: x5 :: x6 :: x7 :: x8 :: x9 :: x10 :: x11 :: x12 :: x13 :: x14 :: y :: t) H F := h
theorem r_v16 {x0 x1 x2 x3 x4 x5 x6 x7 x8 x9 x10 x11 x12 x13 x14 x15 : Option V} {v : V} {t : St} (h : Q v H) : tVar 16 (x0 :: x1 :: x2 :: x3 :: x4 :: x5 :: x6 :: x7 :: x8 :: x9 :: x10 :: x11 :: x12 :: x13 :: x14 :: x15 :: some v :: t) H Q := ⟨v, rfl, h⟩
theorem r_n16 {x0 x1 x2 x3 x4 x5 x6 x7 x8 x9 x10 x11 x12 x13 x14 x15 : Option V} {y : Option V} {v : V} {t : St} {F : St → Hp → Prop} (h : F (x0 :: x1 :: x2 :: x3 :: x4 :: x5 :: x6 :: x7 :: x8 :: x9 :: x10 :: x11 :: x12 :: x13 :: x14 :: x15 :: some v :: t) H) : gName 16 v (x0 :: x1 :: x2 :: x3 :: x4 :: x5 :: x6 :: x7 :: x8 :: x9 :: x10 :: x11 :: x12 :: x13 :: x14 :: x15 :: y :: t) H F := h
theorem r_v17 {x0 x1 x2 x3 x4 x5 x6 x7 x8 x9 x10 x11 x12 x13 x14 x15 x16 : Option V} {v : V} {t : St} (h : Q v H) : tVar 17 (x0 :: x1 :: x2 :: x3 :: x4 :: x5 :: x6 :: x7 :: x8 :: x9 :: x10 :: x11 :: x12 :: x13 :: x14 :: x15 :: x16 :: some v :: t) H Q := ⟨v, rfl, h⟩
theorem r_n17 {x0 x1 x2 x3 x4 x5 x6 x7 x8 x9 x10 x11 x12 x13 x14 x15 x16 : Option V} {y : Option V} {v : V} {t : St} {F : St → Hp → Prop} (h : F (x0 :: x1 :: x2 :: x3 :: x4 :: x5 :: x6 :: x7 :: x8 :: x9 :: x10 :: x11 :: x12 :: x13 :: x14 :: x15 :: x16 :: some v :: t) H) : gName 17 v (x0 :: x1 :: x2 :: x3 :: x4 :: x5 :: x6 :: x7 :: x8 :: x9 :: x10 :: x11 :: x12 :: x13 :: x14 :: x15 :: x16 :: y :: t) H F := h
theorem r_v18 {x0 x1 x2 x3 x4 x5 x6 x7 x8 x9 x10 x11 x12 x13 x14 x15 x16 x17 : Option V} {v : V} {t : St} (h : Q v H) : tVar 18 (x0 :: x1 :: x2 :: x3 :: x4 :: x5 :: x6 :: x7 :: x8 :: x9 :: x10 :: x11 :: x12 :: x13 :: x14 :: x15 :: x16 :: x17 :: some v :: t) H Q := ⟨v, rfl, h⟩
theorem r_n18 {x0 x1 x2 x3 x4 x5 x6 x7 x8 x9 x10 x11 x12 x13 x14 x15 x16 x17 : Option V} {y : Option V} {v : V} {t : St} {F : St → Hp → Prop} (h : F (x0 :: x1 :: x2 :: x3 :: x4 :: x5 :: x6 :: x7 :: x8 :: x9 :: x10 :: x11 :: x12 :: x13 :: x14 :: x15 :: x16 :: x17 :: some v :: t) H) : gName 18 v (x0 :: x1 :: x2 :: x3 :: x4 :: x5 :: x6 :: x7 :: x8 :: x9 :: x10 :: x11 :: x12 :: x13 :: x14 :: x15 :: x16 :: x17 :: y :: t) H F := h
theorem r_v19 {x0 x1 x2 x3 x4 x5 x6 x7 x8 x9 x10 x11 x12 x13 x14 x15 x16 x17 x18 : Option V} {v : V} {t : St} (h : Q v H) : tVar 19 (x0 :: x1 :: x2 :: x3 :: x4 :: x5 :: x6 :: x7 :: x8 :: x9 :: x10 :: x11 :: x12 :: x13 :: x14 :: x15 :: x16 :: x17 :: x18 :: some v :: t) H Q := ⟨v, rfl, h⟩
theorem r_n19 {x0 x1 x2 x3 x4 x5 x6 x7 x8 x9 x10 x11 x12 x13 x14 x15 x16 x17 x18 : Option V} {y : Option V} {v : V} {t : St} {F : St → Hp → Prop} (h : F (x0 :: x1 :: x2 :: x3 :: x4 :: x5 :: x6 :: x7 :: x8 :: x9 :: x10 :: x11 :: x12 :: x13 :: x14 :: x15 :: x16 :: x17 :: x18 :: some v :: t) H) : gName 19 v (x0 :: x1 :: x2 :: x3 :: x4 :: x5 :: x6 :: x7 :: x8 :: x9 :: x10 :: x11 :: x12 :: x13 :: x14 :: x15 :: x16 :: x17 :: x18 :: y :: t) H F := h
/-! operators -/
theorem r_add {i j : Int} (h : Q (.int (i + j)) H) : rAdd3 (.int i) (.int j) H Q := .inl ⟨i, j, rfl, rfl, h⟩
theorem r_addS {a b : List Nat} (hl : a.length + b.length ≤ sizeLine) (h : Q (.str (S (a ++ b))) H) : rAdd3 (.str (S a)) (.str (S b)) H Q :=
  .inr (.inl ⟨_, _, rfl, rfl, by rw [S_len, S_len]; exact hl, by rw [S_app]; exact h⟩)
theorem r_sub {i j : Int} (h : Q (.int (i - j)) H) : rSub (.int i) (.int j) H Q := ⟨i, j, rfl, rfl, h⟩
theorem r_mulL {i j : Int} (h1 : -(2 ^ 64) < i ∧ i < 2 ^ 64) (h : Q (.int (i * j)) H) : rMul (.int i) (.int j) H Q := ⟨i, j, rfl, rfl, .inl h1, h⟩
theorem r_mulR {i j : Int} (h1 : -(2 ^ 64) < j ∧ j < 2 ^ 64) (h : Q (.int (i * j)) H) : rMul (.int i) (.int j) H Q := ⟨i, j, rfl, rfl, .inr h1, h⟩
theorem r_div {i j : Int} (h1 : 0 < j ∧ j < 1073741824) (h : Q (.int (i / j)) H) : rDiv (.int i) (.int j) H Q := ⟨i, j, rfl, rfl, h1, h⟩
theorem r_mod {i j : Int} (h1 : 0 < j) (h : Q (.int (i % j)) H) : rMod (.int i) (.int j) H Q := ⟨i, j, rfl, rfl, h1, h⟩
theorem r_pow {i j : Int} (h1 : 0 ≤ j ∧ j ≤ 1000000 ∧ i.natAbs < 2 ^ 64) (h : Q (.int (i ^ j.toNat)) H) : rPow (.int i) (.int j) H Q := ⟨i, j, rfl, rfl, h1, h⟩
theorem r_neg {i : Int} (h : Q (.int (-i)) H) : rNeg (.int i) H Q := ⟨i, rfl, h⟩
theorem r_lt {i j : Int} (h : Q (.bl (decide (i < j))) H) : rLt (.int i) (.int j) H Q := ⟨i, j, rfl, rfl, h⟩
theorem r_le {i j : Int} (h : Q (.bl (decide (i ≤ j))) H) : rLe (.int i) (.int j) H Q := ⟨i, j, rfl, rfl, h⟩
theorem r_gt {i j : Int} (h : Q (.bl (decide (j < i))) H) : rGt (.int i) (.int j) H Q := ⟨i, j, rfl, rfl, h⟩
theorem r_ge {i j : Int} (h : Q (.bl (decide (j ≤ i))) H) : rGe (.int i) (.int j) H Q := ⟨i, j, rfl, rfl, h⟩
variable {K : PySem.W.Frag}
theorem dec_int (i j : Int) : decide (V.int i = V.int j) = decide (i = j) := by
  by_cases e : i = j
  · rw [decide_eq_true e, decide_eq_true (congrArg V.int e)]
  · rw [decide_eq_false e, decide_eq_false fun q => e (V.int.inj q)]
theorem dec_str (a b : List Nat) : decide (V.str (S a) = V.str (S b)) = decide (a = b) := by
  by_cases e : a = b
  · rw [decide_eq_true e, decide_eq_true (by rw [e])]
  · rw [decide_eq_false e, decide_eq_false fun q => e (S_inj (V.str.inj q))]
theorem r_eqI {i j : Int} (h : Q (.bl (decide (i = j))) H) : rEqG K (.int i) (.int j) H Q := .inl ⟨rfl, by rw [dec_int]; exact h⟩
theorem r_eqS {a b : List Nat} (h : Q (.bl (decide (a = b))) H) : rEqG K (.str (S a)) (.str (S b)) H Q := .inl ⟨rfl, by rw [dec_str]; exact h⟩
theorem r_neI {i j : Int} (h : Q (.bl (!decide (i = j))) H) : rNeG K (.int i) (.int j) H Q := .inl ⟨rfl, by rw [dec_int]; exact h⟩
theorem r_neS {a b : List Nat} (h : Q (.bl (!decide (a = b))) H) : rNeG K (.str (S a)) (.str (S b)) H Q := .inl ⟨rfl, by rw [dec_str]; exact h⟩
theorem r_eqV {x y : V} (hs : scal x y = true) (h : Q (.bl (decide (x = y))) H) : rEqG K x y H Q := .inl ⟨hs, h⟩
theorem r_neV {x y : V} (hs : scal x y = true) (h : Q (.bl (!decide (x = y))) H) : rNeG K x y H Q := .inl ⟨hs, h⟩
theorem r_eqD {x y : V} (d e : PyData) (h1 : Dp K H x d) (h2 : Dp K H y e) (s1 : SeqAt.shaped d = true) (s2 : SeqAt.shaped e = true) (h : Q (.bl (PyData.eqv d e)) H) : rEqG K x y H Q := .inr (.inl ⟨d, e, h1, h2, s1, s2, h⟩)
theorem r_neD {x y : V} (d e : PyData) (h1 : Dp K H x d) (h2 : Dp K H y e) (s1 : SeqAt.shaped d = true) (s2 : SeqAt.shaped e = true) (h : Q (.bl (!PyData.eqv d e)) H) : rNeG K x y H Q := .inr (.inl ⟨d, e, h1, h2, s1, s2, h⟩)
/-! slices, items -/
theorem r_sl {r : V → Option Int → Option Int → Hp → VK → Prop} {tl th : TO} (h : te σ H fun x H1 => tl σ H1 fun l H2 => th σ H2 fun v H3 => r x l v H3 Q) : tSl r te tl th σ H Q := h
theorem r_noPart {QO : Option Int → Hp → Prop} (h : QO none H) : tNoPart σ H QO := h
theorem r_part {QO : Option Int → Hp → Prop} (h : te σ H fun x H1 => ∃ i, x = .int i ∧ QO (some i) H1) : tPart te σ H QO := h
theorem r_int {i : Int} {P : Int → Prop} (h : P i) : ∃ k, V.int i = .int k ∧ P k := ⟨i, rfl, h⟩
theorem r_slS {a : List Nat} {lo hi : Option Int} (hl : a.length ≤ sizeLine) (h : Q (.str (S (cutL a lo hi))) H) : rSl2 K (.str (S a)) lo hi H Q :=
  .inr ⟨_, rfl, by rw [S_len]; exact hl, by rw [S_cut]; exact h⟩
theorem r_ixL {p : Addr} {xs : List V} {i : Int} {v : V} (hs : SqL K H p xs) (ha : atI xs i = some v) (h : Q v H) : rIx K (.ref p) (.int i) H Q := .inl ⟨p, xs, i, v, rfl, rfl, hs, ha, h⟩
theorem r_ixT {p : Addr} {xs : List V} {i : Int} {v : V} (hs : SqT K H p xs) (ha : atI xs i = some v) (h : Q v H) : rIx K (.ref p) (.int i) H Q := .inr (.inl ⟨p, xs, i, v, rfl, rfl, hs, ha, h⟩)
theorem r_ixS {a : List Nat} {i : Int} {c : Nat} (hl : a.length ≤ sizeLine) (ha : atI a i = some c) (h : Q (.str (S [c])) H) : rIx K (.str (S a)) (.int i) H Q :=
  .inr (.inr ⟨_, i, c, rfl, rfl, by rw [S_len]; exact hl, by simpa using ha, h⟩)
/-! new objects: the heap behind is told by what it bears -/
def Nw (H : Hp) (o : HO) (Q : VK) : Prop := ∀ p H2, H p = none → Same H H2 → H2 p = some o → Q (.ref p) H2
theorem same_new {H : Hp} {p : Addr} {o : HO} (h : H p = none) : Same H (upd H p o) := fun b u e => by
  rw [upd_ne (ne_of_none e h)]
  exact e
theorem Nw.go {o : HO} (h : Nw H o Q) : ∀ p, H p = none → Q (.ref p) (upd H p o) := fun p hp => h p _ hp (same_new hp) upd_same
def MkT (H : Hp) (xs : List V) (Q : VK) : Prop := xs.length ≤ sizeLine ∧ ∀ p, H p = none → Q (.ref p) (upd H p (.tup xs))
def MkL (H : Hp) (xs : List V) (Q : VK) : Prop := xs.length ≤ sizeLine ∧ ∀ p, H p = none → Q (.ref p) (upd H p (.lst xs))
theorem r_tup {t : TA} (h : t σ H fun xs H1 => MkT H1 xs Q) : tTup t σ H Q := h
theorem r_lst {t : TA} (h : t σ H fun xs H1 => MkL H1 xs Q) : tLst t σ H Q := h
theorem r_mkT {xs : List V} (hl : xs.length ≤ sizeLine) (h : Nw H (.tup xs) Q) : MkT H xs Q := ⟨hl, h.go⟩
theorem r_mkL {xs : List V} (hl : xs.length ≤ sizeLine) (h : Nw H (.lst xs) Q) : MkL H xs Q := ⟨hl, h.go⟩
theorem r_dnew (h : Nw H (.dK []) Q) : tDNewK σ H Q := h.go
theorem sz {n : Nat} (h : n ≤ 16777216) : n ≤ sizeLine := by rw [sizeLine_eq]; exact h
theorem szl {n : Nat} (h : n < 16777216) : n < sizeLine := by rw [sizeLine_eq]; exact h
/-! calls -/
theorem r_call {sp : Sp} {E : XK} {t : TA} (h : t σ H fun vs H1 => sp vs H1 Q E) : tCall sp [] E t σ H Q := by
  unfold tCall
  simpa using h
theorem r_cb {r : List V → Hp → VK → Prop} {t : TA} (h : t σ H fun vs H1 => r vs H1 Q) : tCB r t σ H Q := h
theorem r_lenL {p : Addr} {xs : List V} (hs : SqL K H p xs) (h : Q (.int xs.length) H) : rLenG K [.ref p] H Q := .inl ⟨p, xs, rfl, .inl hs, h⟩
theorem r_lenT {p : Addr} {xs : List V} (hs : SqT K H p xs) (h : Q (.int xs.length) H) : rLenG K [.ref p] H Q := .inl ⟨p, xs, rfl, .inr hs, h⟩
theorem r_lenS {a : List Nat} (hl : a.length ≤ sizeLine) (h : Q (.int a.length) H) : rLenG K [.str (S a)] H Q := .inr (.inl ⟨_, rfl, by rw [S_len]; exact hl, by rw [S_len]; exact h⟩)
theorem r_lenD {p : Addr} {kvs : List (Key × V)} (hs : H p = some (.dK kvs)) (h : Q (.int kvs.length) H) : rLenG K [.ref p] H Q := .inr (.inr ⟨p, kvs, rfl, hs, h⟩)
theorem r_listL {p : Addr} {xs : List V} (hs : SqL K H p xs) (h : Nw H (.lst xs) Q) : rListG K [.ref p] H Q := .inl ⟨p, xs, rfl, .inl hs, h.go⟩
theorem r_listD {p : Addr} {kvs : List (Key × V)} (hs : Rd H p (.dK kvs)) (h : Nw H (.lst (kvs.map fun kv => kV kv.1)) Q) : rListG K [.ref p] H Q := .inr ⟨p, kvs, rfl, hs, h.go⟩
theorem r_dictD {p : Addr} {kvs : List (Key × V)} (hs : Rd H p (.dK kvs)) (h : Nw H (.dK kvs) Q) : rDictD [.ref p] H Q := ⟨p, kvs, rfl, hs, h.go⟩
theorem r_isi {x : V} {t c : String} {b : Bool} (ty : TyX K H x (.type t)) (hb : kitB t c = some b) (h : Q (.bl b) H) : rIsi K [x, .ty c] H Q := ⟨x, _, _, _, b, rfl, .ty c, ty, kit_ty hb, h⟩
theorem r_is_int_int {i : Int} (h : Q (.bl true) H) : rIsi K [.int i, .ty "int"] H Q := r_isi (.base (.int _)) (t := "int") (by decide +kernel) h
theorem r_is_int_bool {i : Int} (h : Q (.bl false) H) : rIsi K [.int i, .ty "bool"] H Q := r_isi (.base (.int _)) (t := "int") (by decide +kernel) h
theorem r_is_int_str {i : Int} (h : Q (.bl false) H) : rIsi K [.int i, .ty "str"] H Q := r_isi (.base (.int _)) (t := "int") (by decide +kernel) h
theorem r_is_int_tuple {i : Int} (h : Q (.bl false) H) : rIsi K [.int i, .ty "tuple"] H Q := r_isi (.base (.int _)) (t := "int") (by decide +kernel) h
theorem r_is_int_list {i : Int} (h : Q (.bl false) H) : rIsi K [.int i, .ty "list"] H Q := r_isi (.base (.int _)) (t := "int") (by decide +kernel) h
theorem r_is_int_dict {i : Int} (h : Q (.bl false) H) : rIsi K [.int i, .ty "dict"] H Q := r_isi (.base (.int _)) (t := "int") (by decide +kernel) h
theorem r_is_str_int {z : Str} (h : Q (.bl false) H) : rIsi K [.str z, .ty "int"] H Q := r_isi (.base (.str _)) (t := "str") (by decide +kernel) h
theorem r_is_str_bool {z : Str} (h : Q (.bl false) H) : rIsi K [.str z, .ty "bool"] H Q := r_isi (.base (.str _)) (t := "str") (by decide +kernel) h
theorem r_is_str_str {z : Str} (h : Q (.bl true) H) : rIsi K [.str z, .ty "str"] H Q := r_isi (.base (.str _)) (t := "str") (by decide +kernel) h
theorem r_is_str_tuple {z : Str} (h : Q (.bl false) H) : rIsi K [.str z, .ty "tuple"] H Q := r_isi (.base (.str _)) (t := "str") (by decide +kernel) h
theorem r_is_str_list {z : Str} (h : Q (.bl false) H) : rIsi K [.str z, .ty "list"] H Q := r_isi (.base (.str _)) (t := "str") (by decide +kernel) h
theorem r_is_str_dict {z : Str} (h : Q (.bl false) H) : rIsi K [.str z, .ty "dict"] H Q := r_isi (.base (.str _)) (t := "str") (by decide +kernel) h
theorem r_is_bl_int {b : Bool} (h : Q (.bl true) H) : rIsi K [.bl b, .ty "int"] H Q := r_isi (.base (.bl _)) (t := "bool") (by decide +kernel) h
theorem r_is_bl_bool {b : Bool} (h : Q (.bl true) H) : rIsi K [.bl b, .ty "bool"] H Q := r_isi (.base (.bl _)) (t := "bool") (by decide +kernel) h
theorem r_is_bl_str {b : Bool} (h : Q (.bl false) H) : rIsi K [.bl b, .ty "str"] H Q := r_isi (.base (.bl _)) (t := "bool") (by decide +kernel) h
theorem r_is_bl_tuple {b : Bool} (h : Q (.bl false) H) : rIsi K [.bl b, .ty "tuple"] H Q := r_isi (.base (.bl _)) (t := "bool") (by decide +kernel) h
theorem r_is_bl_list {b : Bool} (h : Q (.bl false) H) : rIsi K [.bl b, .ty "list"] H Q := r_isi (.base (.bl _)) (t := "bool") (by decide +kernel) h
theorem r_is_bl_dict {b : Bool} (h : Q (.bl false) H) : rIsi K [.bl b, .ty "dict"] H Q := r_isi (.base (.bl _)) (t := "bool") (by decide +kernel) h
theorem r_is_non_int  (h : Q (.bl false) H) : rIsi K [.non, .ty "int"] H Q := r_isi (.base .non) (t := "NoneType") (by decide +kernel) h
theorem r_is_non_bool  (h : Q (.bl false) H) : rIsi K [.non, .ty "bool"] H Q := r_isi (.base .non) (t := "NoneType") (by decide +kernel) h
theorem r_is_non_str  (h : Q (.bl false) H) : rIsi K [.non, .ty "str"] H Q := r_isi (.base .non) (t := "NoneType") (by decide +kernel) h
theorem r_is_non_tuple  (h : Q (.bl false) H) : rIsi K [.non, .ty "tuple"] H Q := r_isi (.base .non) (t := "NoneType") (by decide +kernel) h
theorem r_is_non_list  (h : Q (.bl false) H) : rIsi K [.non, .ty "list"] H Q := r_isi (.base .non) (t := "NoneType") (by decide +kernel) h
theorem r_is_non_dict  (h : Q (.bl false) H) : rIsi K [.non, .ty "dict"] H Q := r_isi (.base .non) (t := "NoneType") (by decide +kernel) h
theorem r_is_lst_int {a : Addr} {xs : List V} (e : H a = some (.lst xs)) (h : Q (.bl false) H) : rIsi K [.ref a, .ty "int"] H Q := r_isi (.base (.lst e)) (t := "list") (by decide +kernel) h
theorem r_is_lst_str {a : Addr} {xs : List V} (e : H a = some (.lst xs)) (h : Q (.bl false) H) : rIsi K [.ref a, .ty "str"] H Q := r_isi (.base (.lst e)) (t := "list") (by decide +kernel) h
theorem r_is_lst_tuple {a : Addr} {xs : List V} (e : H a = some (.lst xs)) (h : Q (.bl false) H) : rIsi K [.ref a, .ty "tuple"] H Q := r_isi (.base (.lst e)) (t := "list") (by decide +kernel) h
theorem r_is_lst_list {a : Addr} {xs : List V} (e : H a = some (.lst xs)) (h : Q (.bl true) H) : rIsi K [.ref a, .ty "list"] H Q := r_isi (.base (.lst e)) (t := "list") (by decide +kernel) h
theorem r_is_lst_dict {a : Addr} {xs : List V} (e : H a = some (.lst xs)) (h : Q (.bl false) H) : rIsi K [.ref a, .ty "dict"] H Q := r_isi (.base (.lst e)) (t := "list") (by decide +kernel) h
theorem r_is_tup_int {a : Addr} {xs : List V} (e : H a = some (.tup xs)) (h : Q (.bl false) H) : rIsi K [.ref a, .ty "int"] H Q := r_isi (.base (.tup e)) (t := "tuple") (by decide +kernel) h
theorem r_is_tup_str {a : Addr} {xs : List V} (e : H a = some (.tup xs)) (h : Q (.bl false) H) : rIsi K [.ref a, .ty "str"] H Q := r_isi (.base (.tup e)) (t := "tuple") (by decide +kernel) h
theorem r_is_tup_tuple {a : Addr} {xs : List V} (e : H a = some (.tup xs)) (h : Q (.bl true) H) : rIsi K [.ref a, .ty "tuple"] H Q := r_isi (.base (.tup e)) (t := "tuple") (by decide +kernel) h
theorem r_is_tup_list {a : Addr} {xs : List V} (e : H a = some (.tup xs)) (h : Q (.bl false) H) : rIsi K [.ref a, .ty "list"] H Q := r_isi (.base (.tup e)) (t := "tuple") (by decide +kernel) h
theorem r_is_tup_dict {a : Addr} {xs : List V} (e : H a = some (.tup xs)) (h : Q (.bl false) H) : rIsi K [.ref a, .ty "dict"] H Q := r_isi (.base (.tup e)) (t := "tuple") (by decide +kernel) h
theorem r_is_dK_int {a : Addr} {kvs : List (Key × V)} (e : H a = some (.dK kvs)) (h : Q (.bl false) H) : rIsi K [.ref a, .ty "int"] H Q := r_isi (.base (.dK e)) (t := "dict") (by decide +kernel) h
theorem r_is_dK_str {a : Addr} {kvs : List (Key × V)} (e : H a = some (.dK kvs)) (h : Q (.bl false) H) : rIsi K [.ref a, .ty "str"] H Q := r_isi (.base (.dK e)) (t := "dict") (by decide +kernel) h
theorem r_is_dK_tuple {a : Addr} {kvs : List (Key × V)} (e : H a = some (.dK kvs)) (h : Q (.bl false) H) : rIsi K [.ref a, .ty "tuple"] H Q := r_isi (.base (.dK e)) (t := "dict") (by decide +kernel) h
theorem r_is_dK_list {a : Addr} {kvs : List (Key × V)} (e : H a = some (.dK kvs)) (h : Q (.bl false) H) : rIsi K [.ref a, .ty "list"] H Q := r_isi (.base (.dK e)) (t := "dict") (by decide +kernel) h
theorem r_is_dK_dict {a : Addr} {kvs : List (Key × V)} (e : H a = some (.dK kvs)) (h : Q (.bl true) H) : rIsi K [.ref a, .ty "dict"] H Q := r_isi (.base (.dK e)) (t := "dict") (by decide +kernel) h
theorem r_max2 {i j : Int} (h : Q (.int (max i j)) H) : rMax2 [.int i, .int j] H Q := ⟨i, j, rfl, by
  have e : (if j > i then j else i) = max i j := by
    by_cases q : j > i
    · rw [if_pos q]; omega
    · rw [if_neg q]; omega
  rw [e]; exact h⟩
theorem r_min2 {i j : Int} (h : Q (.int (min i j)) H) : rMin2 [.int i, .int j] H Q := ⟨i, j, rfl, by
  have e : (if j < i then j else i) = min i j := by
    by_cases q : j < i
    · rw [if_pos q]; omega
    · rw [if_neg q]; omega
  rw [e]; exact h⟩
theorem r_bm {T : String} {r : V → List V → Hp → VK → Prop} {t : TA} (h : te σ H fun x H1 => tyV K T x H1 ∧ t σ H1 fun xs H2 => r x xs H2 Q) : tBM K T r te t σ H Q := h
theorem r_bm0 {T : String} {r : V → List V → Hp → VK → Prop} (h : te σ H fun x H1 => tyV K T x H1 ∧ r x [] H1 Q) : tBM0 K T r te σ H Q := h
theorem r_tyL {p : Addr} {xs : List V} {P : Prop} (hs : SqL K H p xs) (h : P) : tyV K "list" (.ref p) H ∧ P := ⟨.inl ⟨rfl, xs, hs⟩, h⟩
theorem r_tyS {z : Str} {P : Prop} (h : P) : tyV K "str" (.str z) H ∧ P := ⟨rfl, h⟩
/-- what a store changes: p alone -/
def Chg (p : Addr) (o : HO) (H H' : Hp) : Prop := H' p = some o ∧ ∀ b u, b ≠ p → H b = some u → H' b = some u
theorem chg_upd {p : Addr} {o : HO} : Chg p o H (upd H p o) := ⟨upd_same, fun b u n e => by rw [upd_ne n]; exact e⟩
theorem r_append {p : Addr} {xs : List V} {y : V} (hs : H p = some (.lst xs)) (hl : xs.length < sizeLine) (h : ∀ H', Chg p (.lst (xs ++ [y])) H H' → Q .non H') : rAppend (.ref p) [y] H Q :=
  ⟨p, xs, y, rfl, rfl, hs, hl, h _ chg_upd⟩
/-! dicts -/
theorem r_dget {td ty : TE} (h : td σ H fun x H1 => ty σ H1 fun y H2 => ∃ a v, x = .ref a ∧ DGet H2 a y (some v) ∧ Q v H2) : tDGet td ty σ H Q := h
theorem r_dgetE {p : Addr} {kvs : List (Key × V)} {n : Int} {v : V} (hs : Rd H p (.dK kvs)) {P : V → Prop} (e : valV kvs (.inl n) = some v) (h : P v) : ∃ a v, V.ref p = .ref a ∧ DGet H a (.int n) (some v) ∧ P v :=
  ⟨p, v, rfl, .inl ⟨kvs, .inl n, hs, rfl, e.symm⟩, h⟩
theorem r_din {td ty : TE} (h : ty σ H fun y H1 => td σ H1 fun x H2 => ∃ a o, x = .ref a ∧ DGet H2 a y o ∧ Q (.bl o.isSome) H2) : tDIn ty td σ H Q := h
theorem r_dnotin {td ty : TE} (h : ty σ H fun y H1 => td σ H1 fun x H2 => ∃ a o, x = .ref a ∧ DGet H2 a y o ∧ Q (.bl (!o.isSome)) H2) : tDNotIn ty td σ H Q := h
theorem r_dinE {p : Addr} {kvs : List (Key × V)} {n : Int} {P : Option V → Prop} (hs : Rd H p (.dK kvs)) (h : P (valV kvs (.inl n))) : ∃ a o, V.ref p = .ref a ∧ DGet H a (.int n) o ∧ P o :=
  ⟨p, _, rfl, .inl ⟨kvs, .inl n, hs, rfl, rfl⟩, h⟩
theorem r_dput {td ty tv : TE} (h : tv σ H fun v H1 => td σ H1 fun x H2 => ty σ H2 fun y H3 => ∃ a H4, x = .ref a ∧ DPut H3 a y v H4 ∧ nx σ H4) : sDPut td ty tv ⟨nx, rt, bk, ct⟩ σ H := h
theorem r_dputE {p : Addr} {kvs : List (Key × V)} {n : Int} {v : V} {P : Hp → Prop} (hs : H p = some (.dK kvs)) (hl : kvs.length < sizeLine) (h : ∀ H', Chg p (.dK (putK kvs (.inl n) v)) H H' → P H') :
    ∃ a H4, V.ref p = .ref a ∧ DPut H a (.int n) v H4 ∧ P H4 := ⟨p, _, rfl, DPut.k (k := .inl n) hs hl, h _ chg_upd⟩
/-! fields, methods -/
theorem r_fld {f : Str} (h : ta σ H fun x H1 => ∃ a C dx fs v, x = .ref a ∧ H1 a = some (.ins C dx fs) ∧ Cls K C ∧ NoAttr K C f ∧ fs.lookup f = some v ∧ Q v H1) : tFld K ta f σ H Q := h
theorem r_meth {C : Addr} {m : Str} {sp : Sp} {E : XK} {t : TA} (h : ta σ H fun x H1 => ∃ a dx fs, x = .ref a ∧ H1 a = some (.ins C dx fs) ∧ fs.lookup m = none ∧ t σ H1 fun vs H2 => sp (x :: vs) H2 Q E) : tMeth C m sp [] E ta t σ H Q := by
  unfold tMeth
  simpa using h
/-! locks, loops, comprehensions -/
theorem same_trans {H1 H2 H3 : Hp} (a : Same H1 H2) (b : Same H2 H3) : Same H1 H3 := a.trans b
/-- a loop, a comprehension over what J walks -/
def ForG (J : It) (g : TG) (tb : TS) (nx : St → Hp → Prop) (rt : VK) (σ : St) (H : Hp) : Prop := ∃ W : Nat → Nat → St → Hp → Prop, (∃ m, W 0 m σ H) ∧ ∀ i m σ H, W i m σ H → (J.stop i H ∧ nx σ H) ∨ (J.go i H ∧ ∃ N : St → Hp → Prop, (∀ σ' H', N σ' H' → ∃ m', m' < m ∧ W (i + 1) m' σ' H') ∧
    ∀ x H', J.yld i H x H' → g x σ H' fun σ2 H2 => tb ⟨N, rt, nx, N⟩ σ2 H2)
def LcG (J : It) (k : Nat) (tt : TT) (te : TE) (σ : St) (Q : VK) (H1 : Hp) : Prop := ∀ D, H1 D = none → ∃ W : Nat → Nat → Hp → Prop, (∃ m, W 0 m (upd H1 D (.lst []))) ∧ ∀ i m H, W i m H →
  (J.stop i H ∧ Q (.ref D) H) ∨ (J.go i H ∧ ∃ Nx : Hp → Prop, (∀ H', Nx H' → ∃ m', m' < m ∧ W (i + 1) m' H') ∧ ∀ x H', J.yld i H x H' → gName k x (wipe σ [k]) H' fun σ2 H2 => wipe σ2 [k] = wipe σ [k] ∧ tt σ2 H2 fun b H3 =>
    if b = true then te σ2 H3 fun y H4 => ∃ acc, H4 D = some (.lst acc) ∧ acc.length < sizeLine ∧ Nx (upd H4 D (.lst (acc ++ [y]))) else Nx H3)
theorem r_for {wi : TI} {tb : TS} (h : wi σ H fun J H1 => ForG J g tb nx rt σ H1) : tFor wi g tb ⟨nx, rt, bk, ct⟩ σ H := h
theorem r_rng1 {t : TA} {R : It → Hp → Prop} (h : t σ H fun vs H1 => ∃ j : Int, vs = [.int j] ∧ -(2 ^ 62) ≤ j ∧ j < 2 ^ 62 ∧ R (Itr 0 j.toNat) H1) : iRng1 t σ H R := h
theorem r_rng1E {j : Int} {P : Int → Prop} (h1 : -(2 ^ 62) ≤ j ∧ j < 2 ^ 62) (h : P j) : ∃ j' : Int, [V.int j] = [.int j'] ∧ -(2 ^ 62) ≤ j' ∧ j' < 2 ^ 62 ∧ P j' := ⟨j, rfl, h1.1, h1.2, h⟩
theorem r_rng2 {t : TA} {R : It → Hp → Prop} (h : t σ H fun vs H1 => ∃ i j : Int, vs = [.int i, .int j] ∧ (-(2 ^ 62) ≤ i ∧ i < 2 ^ 62 ∧ -(2 ^ 62) ≤ j ∧ j < 2 ^ 62) ∧ R (Itr i (j - i).toNat) H1) : iRng2 t σ H R := h
theorem r_rng2E {i j : Int} {P : Int → Int → Prop} (h1 : -(2 ^ 62) ≤ i ∧ i < 2 ^ 62 ∧ -(2 ^ 62) ≤ j ∧ j < 2 ^ 62) (h : P i j) : ∃ i2 j2 : Int, [V.int i, V.int j] = [.int i2, .int j2] ∧ (-(2 ^ 62) ≤ i2 ∧ i2 < 2 ^ 62 ∧ -(2 ^ 62) ≤ j2 ∧ j2 < 2 ^ 62) ∧ P i2 j2 := ⟨i, j, rfl, h1, h⟩
theorem r_iList {R : It → Hp → Prop} (h : te σ H fun x H1 => ∃ a, x = .ref a ∧ (∃ xs, SqL K H1 a xs) ∧ R (Itl K a) H1) : iList K te σ H R := h
theorem r_iListE {a : Addr} {xs : List V} {P : Addr → Prop} (hs : SqL K H a xs) (h : P a) : ∃ a2, V.ref a = .ref a2 ∧ (∃ xs, SqL K H a2 xs) ∧ P a2 := ⟨a, rfl, ⟨xs, hs⟩, h⟩
theorem r_iKeys {R : It → Hp → Prop} (h : te σ H fun x H1 => ∃ d o, x = .ref d ∧ ((∃ kvs, H1 d = some (.frz o (.dK kvs)) ∧ R (Itk d o kvs) H1) ∨ ∃ kvs, H1 d = some (.frz o (.dT kvs)) ∧ R (Itkt d o kvs) H1)) : iKeys te σ H R := h
theorem r_iKeysE {d : Addr} {o : Obj} {kvs : List (Key × V)} {R : It → Hp → Prop} (hs : H d = some (.frz o (.dK kvs))) (h : R (Itk d o kvs) H) :
    ∃ d2 o2, V.ref d = .ref d2 ∧ ((∃ kvs, H d2 = some (.frz o2 (.dK kvs)) ∧ R (Itk d2 o2 kvs) H) ∨ ∃ kvs, H d2 = some (.frz o2 (.dT kvs)) ∧ R (Itkt d2 o2 kvs) H) := ⟨d, o, rfl, .inl ⟨kvs, hs, h⟩⟩
theorem r_rev {p : Addr} {xs : List V} (hs : H p = some (.lst xs)) (h : ∀ H', Chg p (.lst xs.reverse) H H' → Q .non H') : rReverse (.ref p) [] H Q := ⟨p, xs, rfl, rfl, hs, h _ chg_upd⟩
theorem r_lc {wi : TI} {k : Nat} (h : wi σ H fun J H1 => LcG J k tt te σ Q H1) : tLc wi (gName k) tt te [k] σ H Q := h
end

/-! ### loops and comprehensions by what is walked -/
section
variable {nx : St → Hp → Prop} {rt : VK} {bk ct : St → Hp → Prop} {σ : St} {H : Hp} {te : TE} {g : TG} {tt : TT} {Q : VK} {J : It} {n : Nat} {G : Hp → Prop} {Y : Nat → Hp → V → Hp → Prop} {tb : TS}
theorem for_go (w : Walk J n G Y) (Pv : Nat → St → Hp → Prop) (h0 : Pv 0 σ H) (hG : ∀ i σ H, i ≤ n → Pv i σ H → G H)
    (hs : ∀ i x σ H H', i < n → Pv i σ H → Y i H x H' → g x σ H' fun σ2 H2 => tb ⟨Pv (i + 1), rt, nx, Pv (i + 1)⟩ σ2 H2) (hd : ∀ σ H, Pv n σ H → nx σ H) :
    ForG J g tb nx rt σ H := for_it w (D := ⟨nx, rt, fun _ _ => False, fun _ _ => False⟩) Pv h0 hG hs hd
theorem walk_rng {lo : Int} {n : Nat} : Walk (Itr lo n) n (fun _ => True) (fun i H x H' => H' = H ∧ x = .int (lo + i)) := walk_range.mono (fun _ h => h) fun i H x H' _ _ y => y
theorem walk_rng0 {n : Nat} : Walk (Itr 0 n) n (fun _ => True) (fun i H x H' => H' = H ∧ x = .int i) := walk_range.mono (fun _ h => h) fun i H x H' _ _ y => ⟨y.1, by rw [y.2]; show V.int (0 + (i : Int)) = V.int i; rw [Int.zero_add]⟩
theorem r_yes {QB : Bool → Hp → Prop} (h : QB true H) : tYes σ H QB := h
/-- what holds of a comprehension's list so far -/
def LcI (Pv : Addr → Nat → List V → Hp → Prop) (D : Addr) (i : Nat) (H : Hp) : Prop := ∃ acc, acc.length ≤ i ∧ H D = some (.lst acc) ∧ Pv D i acc H
theorem lc_go (w : Walk J n G Y) (hn : n ≤ 1000000) {k : Nat} (Pv : Addr → Nat → List V → Hp → Prop) (h0 : ∀ D H2, H D = none → Same H H2 → H2 D = some (.lst []) → Pv D 0 [] H2)
    (hG : ∀ D i acc H, i ≤ n → Pv D i acc H → G H)
    (hs : ∀ D i x acc H H', i < n → acc.length ≤ i → H D = some (.lst acc) → Pv D i acc H → Y i H x H' → gName k x σ H' fun σ2 H2 => tt σ2 H2 fun b H3 =>
      if b = true then te σ2 H3 fun y H4 => ∃ acc, H4 D = some (.lst acc) ∧ acc.length < sizeLine ∧ LcI Pv D (i + 1) (upd H4 D (.lst (acc ++ [y]))) else LcI Pv D (i + 1) H3)
    (hd : ∀ D acc H, Pv D n acc H → H D = some (.lst acc) → Q (.ref D) H) :
    LcG J k tt te σ Q H := by
  intro D hD
  refine lc_it w (Qd := fun H => Q (.ref D) H) (fun i H => LcI Pv D i H) ⟨[], Nat.le_refl _, upd_same, h0 D _ hD (same_new hD) upd_same⟩ (fun i H hi ⟨acc, _, _, p⟩ => hG D i acc H hi p) ?_ (fun H ⟨acc, _, e, p⟩ => hd D acc H p e)
  rintro i x H1 H' hi ⟨acc, ha, e, p⟩ y
  have e1 : (wipe σ [k]).set k (some x) = σ.set k (some x) := by
    show (σ.set k none).set k (some x) = σ.set k (some x)
    rw [List.set_set]
  have e2 : wipe (σ.set k (some x)) [k] = wipe σ [k] := by
    show (σ.set k (some x)).set k none = σ.set k none
    rw [List.set_set]
  show wipe ((wipe σ [k]).set k (some x)) [k] = wipe σ [k] ∧ tt ((wipe σ [k]).set k (some x)) H' _
  rw [e1]
  exact ⟨e2, hs D i x acc H1 H' hi ha e p y⟩
theorem lc_end {Pv : Addr → Nat → List V → Hp → Prop} {D : Addr} {i : Nat} {acc : List V} {y : V} (ha : acc.length ≤ i) (hi : i < 1000000) (e : H D = some (.lst acc))
    (h : ∀ H5, Chg D (.lst (acc ++ [y])) H H5 → Pv D (i + 1) (acc ++ [y]) H5) : ∃ acc, H D = some (.lst acc) ∧ acc.length < sizeLine ∧ LcI Pv D (i + 1) (upd H D (.lst (acc ++ [y]))) :=
  ⟨acc, e, by rw [sizeLine_eq]; omega, acc ++ [y], by rw [List.length_append]; show acc.length + 1 ≤ i + 1; omega, upd_same, h _ chg_upd⟩
theorem lc_not {Pv : Addr → Nat → List V → Hp → Prop} {D : Addr} {i : Nat} {acc : List V} (ha : acc.length ≤ i) (e : H D = some (.lst acc)) (h : Pv D (i + 1) acc H) : LcI Pv D (i + 1) H := ⟨acc, by omega, e, h⟩
/-- a while -/
theorem r_while {c : TT} (Pv : St → Hp → Prop) (μ : St → Hp → Nat) (h0 : Pv σ H)
    (hs : ∀ σ H, Pv σ H → c σ H fun b H1 => if b = true then ∃ N : St → Hp → Prop, (∀ σ' H', N σ' H' → ∃ m', m' < μ σ H ∧ (m' = μ σ' H' ∧ Pv σ' H')) ∧ tb ⟨N, rt, nx, N⟩ σ H1 else nx σ H1) : tWhile c tb ⟨nx, rt, bk, ct⟩ σ H := by
  refine ⟨fun m σ H => m = μ σ H ∧ Pv σ H, ⟨_, rfl, h0⟩, ?_⟩
  rintro m σ H ⟨rfl, p⟩
  exact hs σ H p
theorem wh_body {Pv : St → Hp → Prop} {μ : St → Hp → Nat} {m : Nat} {H1 : Hp} (h : tb ⟨fun σ' H' => Pv σ' H' ∧ μ σ' H' < m, rt, nx, fun σ' H' => Pv σ' H' ∧ μ σ' H' < m⟩ σ H1) :
    ∃ N : St → Hp → Prop, (∀ σ' H', N σ' H' → ∃ m', m' < m ∧ (m' = μ σ' H' ∧ Pv σ' H')) ∧ tb ⟨N, rt, nx, N⟩ σ H1 := ⟨_, fun σ' H' h => ⟨_, h.2, rfl, h.1⟩, h⟩
end
/-! ### the steps by their heads -/
/-- a fact of an elder heap, in the newest -/
theorem sm_of {H H' : Hp} {a : Addr} {o : HO} (s : Same H H') (h : H a = some o) : H' a = some o := s a o h
theorem sm_chg {H H1 H2 : Hp} {D : Addr} {o : HO} (s : Same H H1) (h : H D = none) (c : Chg D o H1 H2) : Same H H2 := fun b u e => c.2 b u (ne_of_none e h) (s b u e)
theorem sm_tup {K : PySem.W.Frag} {H H' : Hp} {a : Addr} {xs : List V} (e : Same H H') (h : SqT K H a xs) : SqT K H' a xs := by
  rcases h with (h | ⟨o, h⟩) | h
  · exact .inl (.inl (e _ _ h))
  · exact .inl (.inr ⟨o, e _ _ h⟩)
  · exact .inr h
theorem sm_rd {H H' : Hp} {a : Addr} {u : HO} (e : Same H H') (h : Rd H a u) : Rd H' a u := by
  rcases h with h | ⟨o, h⟩
  · exact .inl (e _ _ h)
  · exact .inr ⟨o, e _ _ h⟩
end Pk
namespace Pk
open PySem PySem.Spec L2
/-- a def of the module's top, called by its name -/
structure FnAt (P : Program) (w : World) (K : PySem.W.Frag) (mg : Str → Option Value) (base : Heap) (x : Str) (k : Nat) (ps : List Str) (sp : Sp) (f : Addr) (fd : FuncData) : Prop where
  ok : FnOk P w K mg base (L2.CX P w) k f fd ps sp
  mg : mg x = some (.ref f)
  kp : PySem.W.keepIn K (.ref f) = true
  b : Binds K fd ps []
/-- a method of the class at C -/
structure MeAt (P : Program) (w : World) (K : PySem.W.Frag) (mg : Str → Option Value) (base : Heap) (C : Addr) (m : Str) (k : Nat) (ps : List Str) (sp : Sp) (f : Addr) (fd : FuncData) : Prop where
  ok : FnOk P w K mg base (L2.CX P w) k f fd ps sp
  mt : Meth K C m f
  b : Binds K fd ps []
/-- the class's __init__ -/
structure MeI (P : Program) (w : World) (K : PySem.W.Frag) (mg : Str → Option Value) (base : Heap) (C : Addr) (k : Nat) (ps : List Str) (sp : Sp) (f : Addr) (fd : FuncData) : Prop where
  ok : FnOk P w K mg base (L2.CX P w) k f fd ps sp
  b : Binds K fd ps []
theorem cx_no {P : Program} {w : World} {outer : List Env} {H : Hp} {s : Shared} {e : Value} {s2 : Shared} (h : L2.CX P w outer H s (fun _ _ _ => False) e s2) : False := by
  obtain ⟨_, _, _, _, _, _, _, _, _, _, _, _, z⟩ := h
  exact z
/-- what a raised own class must say -/
structure ExAt (K : PySem.W.Frag) (mg : Str → Option Value) (x : Str) (C : Addr) : Prop where
  mg : mg x = some (.ref C)
  x : PySem.W.excIn K C He.veBase "ValueError.__new__" = true
  k : PySem.W.keepIn K (.ref C) = true
  b : PySem.W.subIn K (.ref C) (.type "BaseException") = some true
  t : PySem.W.typeIn K (.ref C) = some (.type "type")
/-- the facts of the head, and one more of one's own -/
def hookP (n : Nat) (fa : List He.Fa) (fn : List He.DefD) (ex : PySem.W.Frag → Bool) : PySem.W.Hook where
  α := He.AlD × Bool
  obs := fun s => (He.obsDG n fa fn s.heap.get?, ex (He.frG s.heap.get? (He.asD s.heap.get? n)))
  val := fun _ => (He.valD fn, true)
  says := fun _ h => ∃ K : PySem.W.Frag, K.In h ∧ He.SaysD fa fn K ∧ ex K = true
  of := fun _ _ e => ⟨_, He.frG_in, congrArg Prod.fst e, congrArg Prod.snd e⟩
  keeps := fun _ _ _ ⟨K, hK, c⟩ k => ⟨K, PySem.W.Frag.In.keeps hK k, c⟩
def obsP (n : Nat) (fa : List He.Fa) (fn : List He.DefD) (ex : PySem.W.Frag → Bool) (g : Addr → Option Obj) : He.AlD × Bool := (He.obsDG n fa fn g, ex (He.frG g (He.asD g n)))
theorem obsP_eq {n : Nat} {fa : List He.Fa} {fn : List He.DefD} {ex : PySem.W.Frag → Bool} {g : Addr → Option Obj} {s : Shared} (h : ∀ a, g a = s.heap.get? a) : obsP n fa fn ex g = (hookP n fa fn ex).obs s := by
  have e : g = s.heap.get? := funext h
  rw [e]
  rfl
end Pk
/-! PkM: the mathematics, and facts of the slots and heaps that several defs share. -/
namespace Pk
open PySem PySem.Spec L2
/-- where a change fits -/
def Fits (z : List Nat) (at_ : Int) (gone : List Nat) : Prop := 0 ≤ at_ ∧ at_ + gone.length ≤ z.length ∧ cutL z (some at_) (some (at_ + gone.length)) = gone
def doneL (z : List Nat) (at_ : Int) (gone come : List Nat) : List Nat := cutL z none (some at_) ++ come ++ cutL z (some (at_ + gone.length)) none
/-- a text of at most n signs -/
def Tx (n : Nat) (l : List Nat) : Prop := l.length ≤ n ∧ Ok l
theorem Tx.mono {n m : Nat} {l : List Nat} (h : Tx n l) (e : n ≤ m) : Tx m l := ⟨by have := h.1; omega, h.2⟩
theorem Tx.app {n m : Nat} {a b : List Nat} (h : Tx n a) (g : Tx m b) : Tx (n + m) (a ++ b) := ⟨by rw [List.length_append]; have := h.1; have := g.1; omega, fun c hc => (List.mem_append.mp hc).elim (h.2 c) (g.2 c)⟩
theorem Tx.sub {n : Nat} {a b : List Nat} (h : Tx n b) (s : a.Sublist b) : Tx n a := ⟨by have := h.1; have := s.length_le; omega, fun c hc => h.2 c (s.subset hc)⟩
theorem Tx.take {n : Nat} {a : List Nat} (h : Tx n a) (k : Nat) : Tx n (a.take k) := h.sub (List.take_sublist k a)
theorem Tx.drop {n : Nat} {a : List Nat} (h : Tx n a) (k : Nat) : Tx n (a.drop k) := h.sub (List.drop_sublist k a)
theorem Tx.cut {n : Nat} {a : List Nat} (h : Tx n a) (lo hi : Option Int) : Tx n (cutL a lo hi) := (h.drop _).take _
theorem strOk_of {l : List Nat} (h : Ok l) : PyData.strOk (S l) = true := by
  unfold PyData.strOk
  rw [Array.all_eq_true]
  intro i hi
  exact decide_eq_true (h _ (by simp))
theorem dp_i (K : PySem.W.Frag) (H : Hp) (i : Int) : Dp K H (.int i) (.int i) := .int i
/-- a change as data -/
abbrev chD (i : Int) (a b : List Nat) : PyData := .tuple [.int i, .str (S a), .str (S b)]
theorem chD_dp {K : PySem.W.Frag} {H : Hp} {t : Addr} {i : Int} {a b : List Nat} (h : H t = some (.tup [.int i, .str (S a), .str (S b)])) : Dp K H (.ref t) (chD i a b) := .tup (.of h) (.cons (.int i) (.cons (.str _) (.cons (.str _) .nil)))
theorem chD_lay {i : Int} {a b : List Nat} (ha : Ok a) (hb : Ok b) : (chD i a b).canLay0 = true := by
  simp [chD, PyData.canLay0, PyData.canLayAll0, strOk_of ha, strOk_of hb]
theorem chD_shaped {i : Int} {a b : List Nat} (ha : Ok a) (hb : Ok b) : SeqAt.shaped (chD i a b) = true := by
  unfold SeqAt.shaped
  rw [chD_lay ha hb]
  rfl
theorem r_eqSame {K : PySem.W.Frag} {H : Hp} {Q : VK} {x y : V} (d : PyData) (h1 : Dp K H x d) (h2 : Dp K H y d) (s : SeqAt.shaped d = true) (h : Q (.bl true) H) : rEqG K x y H Q :=
  r_eqD d d h1 h2 s s (by rw [SeqAt.eqv_refl d (SeqAt.canLay_of_shaped s)]; exact h)
theorem r_neSame {K : PySem.W.Frag} {H : Hp} {Q : VK} {x y : V} (d : PyData) (h1 : Dp K H x d) (h2 : Dp K H y d) (s : SeqAt.shaped d = true) (h : Q (.bl false) H) : rNeG K x y H Q :=
  r_neD d d h1 h2 s s (by rw [SeqAt.eqv_refl d (SeqAt.canLay_of_shaped s)]; exact h)
theorem cutL_len (z : List Nat) (lo hi : Option Int) : (cutL z lo hi).length ≤ z.length := by
  unfold cutL
  rw [List.length_take, List.length_drop]
  omega
theorem cutL_nn (z : List Nat) (i j : Nat) : cutL z (some (i : Int)) (some (j : Int)) = (z.drop i).take (j - i) := by
  unfold cutL
  rw [HT.sIx_nat, HT.sIx_nat]
  by_cases h : i ≤ z.length
  · rw [Nat.min_eq_left h]
    by_cases h2 : j ≤ z.length
    · rw [Nat.min_eq_left h2]
    · rw [Nat.min_eq_right (show z.length ≤ j by omega), List.take_of_length_le (by rw [List.length_drop]; omega), List.take_of_length_le (by rw [List.length_drop]; omega)]
  · rw [Nat.min_eq_right (show z.length ≤ i by omega), List.drop_eq_nil_of_le (Nat.le_refl z.length), List.drop_eq_nil_of_le (show z.length ≤ i by omega)]
    simp
theorem cutL_to (z : List Nat) (j : Nat) : cutL z none (some (j : Int)) = z.take j := by
  unfold cutL
  rw [HT.sIx_nat, HT.sIx_none, List.drop_zero, Nat.sub_zero]
  by_cases h : j ≤ z.length
  · rw [Nat.min_eq_left h]
  · rw [Nat.min_eq_right (show z.length ≤ j by omega), List.take_of_length_le (Nat.le_refl _), List.take_of_length_le (show z.length ≤ j by omega)]
theorem cutL_from (z : List Nat) (i : Nat) : cutL z (some (i : Int)) none = z.drop i := by
  unfold cutL
  rw [HT.sIx_nat, HT.sIx_none]
  by_cases h : i ≤ z.length
  · rw [Nat.min_eq_left h, List.take_of_length_le (by rw [List.length_drop]; omega)]
  · rw [Nat.min_eq_right (show z.length ≤ i by omega), List.drop_eq_nil_of_le (Nat.le_refl z.length), List.drop_eq_nil_of_le (show z.length ≤ i by omega)]
    simp
theorem fits_of {p gone s : List Nat} : Fits (p ++ gone ++ s) (p.length : Int) gone := by
  refine ⟨by omega, by simp only [List.length_append]; omega, ?_⟩
  rw [show ((p.length : Int) + (gone.length : Int)) = ((p.length + gone.length : Nat) : Int) by omega, cutL_nn, List.append_assoc, List.drop_left, Nat.add_sub_cancel_left, List.take_left]
theorem fits_split {z gone : List Nat} {at_ : Int} (h : Fits z at_ gone) : ∃ p s, z = p ++ gone ++ s ∧ at_ = (p.length : Int) := by
  obtain ⟨h1, h2, h3⟩ := h
  obtain ⟨k, rfl⟩ : ∃ k : Nat, at_ = k := ⟨at_.toNat, by omega⟩
  rw [show ((k : Int) + (gone.length : Int)) = ((k + gone.length : Nat) : Int) by omega, cutL_nn, Nat.add_sub_cancel_left] at h3
  refine ⟨z.take k, (z.drop k).drop gone.length, ?_, by rw [List.length_take]; omega⟩
  have e : z.drop k = gone ++ (z.drop k).drop gone.length := by
    conv => lhs; rw [← List.take_append_drop gone.length (z.drop k), h3]
  rw [List.append_assoc, ← e, List.take_append_drop]
theorem done_of {p gone s come : List Nat} : doneL (p ++ gone ++ s) (p.length : Int) gone come = p ++ come ++ s := by
  unfold doneL
  rw [show ((p.length : Int) + (gone.length : Int)) = ((p.length + gone.length : Nat) : Int) by omega, cutL_to, cutL_from]
  rw [show (p ++ gone ++ s).take p.length = p by rw [List.append_assoc, List.take_left]]
  rw [show (p ++ gone ++ s).drop (p.length + gone.length) = s by rw [← List.length_append, List.drop_left]]
def cellAt (ns : List Int) (k : Int) : Int := ns.getD k.toNat 0
/-! ### bases: dicts from numbers to numbers or None -/
def obV : Option Int → V
  | none => .non
  | some b => .int b
def bK (lv : List (Int × Option Int)) : List (Key × V) := lv.map fun p => (.inl p.1, obV p.2)
def look {β : Type} (lv : List (Int × β)) (n : Int) : Option β := (lv.find? fun p => decide (p.1 = n)).map Prod.snd
theorem look_nil {β : Type} (n : Int) : look ([] : List (Int × β)) n = none := rfl
theorem look_cons {β : Type} (a : Int) (b : β) (r : List (Int × β)) (n : Int) : look ((a, b) :: r) n = if a = n then some b else look r n := by
  unfold look
  rw [List.find?_cons]
  by_cases h : a = n
  · simp [h]
  · simp [h]
theorem look_app {β : Type} (n : Int) : ∀ l m : List (Int × β), look (l ++ m) n = (look l n).or (look m n)
  | [], m => rfl
  | (a, b) :: r, m => by
    rw [List.cons_append, look_cons, look_cons]
    by_cases h : a = n
    · rw [if_pos h, if_pos h]; rfl
    · rw [if_neg h, if_neg h]; exact look_app n r m
theorem look_mem {β : Type} {n : Int} {b : β} : ∀ {l : List (Int × β)}, look l n = some b → (n, b) ∈ l
  | [], h => by cases h
  | (a, c) :: r, h => by
    rw [look_cons] at h
    by_cases e : a = n
    · rw [if_pos e] at h
      cases h; subst e; exact List.mem_cons_self
    · rw [if_neg e] at h
      exact List.mem_cons_of_mem _ (look_mem h)
theorem look_of_mem {β : Type} {n : Int} {b : β} : ∀ {l : List (Int × β)}, (l.map Prod.fst).Nodup → (n, b) ∈ l → look l n = some b
  | [], _, h => by cases h
  | (a, c) :: r, nd, h => by
    rw [List.map_cons, List.nodup_cons] at nd
    rw [look_cons]
    rcases List.mem_cons.mp h with e | h
    · cases e; rw [if_pos rfl]
    · rw [if_neg (fun e => nd.1 (by subst e; exact List.mem_map.mpr ⟨_, h, rfl⟩))]
      exact look_of_mem nd.2 h
theorem look_none {β : Type} {n : Int} : ∀ {l : List (Int × β)}, look l n = none ↔ n ∉ l.map Prod.fst
  | [] => by simp [look_nil]
  | (a, c) :: r => by
    rw [look_cons, List.map_cons, List.mem_cons]
    by_cases e : a = n
    · rw [if_pos e]; subst e; simp
    · rw [if_neg e, look_none]
      exact ⟨fun h z => z.elim (fun q => e q.symm) h, fun h z => h (.inr z)⟩
theorem bK_val (lv : List (Int × Option Int)) (n : Int) : valV (bK lv) (.inl n) = (look lv n).map obV := by
  induction lv with
  | nil => rfl
  | cons p r ih =>
    obtain ⟨a, b⟩ := p
    rw [look_cons]
    unfold valV bK at *
    rw [List.map_cons, List.find?_cons]
    by_cases h : a = n
    · subst h; simp
    · have e : decide ((Sum.inl a : Key) = Sum.inl n) = false := decide_eq_false fun q => h (Sum.inl.inj q)
      rw [if_neg h]
      simp only [e]
      exact ih
theorem bK_keys (lv : List (Int × Option Int)) : (bK lv).map (·.1) = (lv.map Prod.fst).map Sum.inl := by
  unfold bK
  rw [List.map_map, List.map_map]
  rfl
theorem bK_put {lv : List (Int × Option Int)} {n : Int} {b : Option Int} (h : look lv n = none) : putK (bK lv) (.inl n) (obV b) = bK (lv ++ [(n, b)]) := by
  rw [putK_new _ (by rw [bK_val, h]; rfl)]
  unfold bK
  rw [List.map_append]
  rfl
theorem bK_len (lv : List (Int × Option Int)) : (bK lv).length = lv.length := List.length_map _
/-- a version's chain -/
inductive Ch (lv : List (Int × Option Int)) : Int → List Int → Prop
  | whole {n : Int} : look lv n = some none → Ch lv n [n]
  | lean {n b : Int} {c : List Int} : look lv n = some (some b) → Ch lv b c → Ch lv n (n :: c)
theorem Ch.inj {lv : List (Int × Option Int)} {n : Int} {c d : List Int} (h : Ch lv n c) (g : Ch lv n d) : c = d := by
  induction h generalizing d with
  | whole e => cases g with
    | whole _ => rfl
    | lean e2 _ => rw [e] at e2; cases e2
  | lean e _ ih => cases g with
    | whole e2 => rw [e] at e2; cases e2
    | lean e2 g2 => rw [e] at e2; cases e2; rw [ih g2]
theorem Ch.look {lv : List (Int × Option Int)} {n : Int} {c : List Int} (h : Ch lv n c) : ∃ o, Pk.look lv n = some o := by
  cases h with
  | whole e => exact ⟨_, e⟩
  | lean e _ => exact ⟨_, e⟩
theorem Ch.head {lv : List (Int × Option Int)} {n : Int} {c : List Int} (h : Ch lv n c) : ∃ r, c = n :: r := by
  cases h with
  | whole e => exact ⟨_, rfl⟩
  | lean e _ => exact ⟨_, rfl⟩
theorem Ch.at {lv : List (Int × Option Int)} {n : Int} {c : List Int} (h : Ch lv n c) : ∀ (i : Nat) (x : Int), c[i]? = some x → Pk.look lv x = some c[i + 1]? := by
  induction h with
  | whole e =>
    intro i x q
    cases i with
    | zero => cases q; exact e
    | succ i => simp at q
  | @lean n b c e hb ih =>
    intro i x q
    cases i with
    | zero =>
      cases q
      obtain ⟨r, rfl⟩ := hb.head
      exact e
    | succ i => exact ih i x q
/-- each chain ends; r bounds how long it is -/
def Wood (lv : List (Int × Option Int)) (rk : Int → Nat) : Prop := ∀ n b, look lv n = some (some b) → (look lv b).isSome ∧ rk b < rk n
theorem Wood.ch {lv : List (Int × Option Int)} {rk : Int → Nat} (w : Wood lv rk) : ∀ (k : Nat) (n : Int), rk n ≤ k → (look lv n).isSome → ∃ c, Ch lv n c ∧ c.length ≤ rk n + 1
  | k, n, hk, h => by
    cases e : look lv n with
    | none => rw [e] at h; cases h
    | some o =>
      cases o with
      | none => exact ⟨[n], .whole e, by show 1 ≤ rk n + 1; omega⟩
      | some b =>
        obtain ⟨h1, h2⟩ := w n b e
        cases k with
        | zero => omega
        | succ k =>
          obtain ⟨c, hc, hl⟩ := Wood.ch w k b (by omega) h1
          exact ⟨n :: c, .lean e hc, by rw [List.length_cons]; omega⟩

theorem menu2 {x y : V} {i : Int} (h : 0 ≤ i ∧ i < 2) : ∃ v, atI [x, y] i = some v ∧ (v = x ∨ v = y) := by
  have h : i = 0 ∨ i = 1 := by omega
  rcases h with rfl | rfl
  · exact ⟨x, rfl, .inl rfl⟩
  · exact ⟨y, rfl, .inr rfl⟩
/-- wood as a law builds it: names f, the k-th leans on one ahead -/
theorem wood_of {many : Nat} {f : Nat → Int} {bl : List (Option Int)} {os : List Nat} (hm : many ≤ 31) (inj : ∀ j k, j < 31 → k < 31 → f j = f k → j = k) (hb : bl.length = many)
    (hlow : ∀ k b, bl[k]? = some (some b) → ∃ j, j < k ∧ b = f j) (ho : ∀ k, k ∈ os ↔ k < many) (nd : os.Nodup) :
    ((os.map fun k => (f k, bl.getD k none)).map Prod.fst).Nodup ∧ ∃ rk : Int → Nat, Wood (os.map fun k => (f k, bl.getD k none)) rk ∧ ∀ n, rk n ≤ 30 := by
  have hnd : ((os.map fun k => (f k, bl.getD k none)).map Prod.fst).Nodup := by
    rw [List.map_map]
    have e : (Prod.fst ∘ fun k => (f k, bl.getD k none)) = f := rfl
    rw [e]
    refine List.Pairwise.map f (fun j k h q => h.2.2 (inj j k h.1 h.2.1 q)) (R := fun j k => j < 31 ∧ k < 31 ∧ j ≠ k) ?_
    have h1 : os.Pairwise fun j k => j ≠ k := nd
    refine List.Pairwise.imp_of_mem ?_ h1
    intro j k hj hk h
    exact ⟨by have := (ho j).mp hj; omega, by have := (ho k).mp hk; omega, h⟩
  refine ⟨hnd, fun n => ((List.range 31).find? fun k => decide (f k = n)).getD 0, ?_, ?_⟩
  · have rkf : ∀ k, k < 31 → ((List.range 31).find? fun j => decide (f j = f k)).getD 0 = k := fun k hk => by
      cases e : (List.range 31).find? fun j => decide (f j = f k) with
      | none => exact absurd (List.find?_eq_none.mp e k (List.mem_range.mpr hk)) (by simp)
      | some j =>
        have h1 := List.find?_some e
        have h2 := List.mem_of_find?_eq_some e
        exact inj j k (List.mem_range.mp h2) hk (of_decide_eq_true h1)
    intro n b h
    obtain ⟨k, hk, e⟩ := List.mem_map.mp (look_mem h)
    injection e with e1 e2
    subst e1
    have hk2 := (ho k).mp hk
    obtain ⟨j, hj, rfl⟩ := hlow k b (by rw [List.getElem?_eq_getElem (by omega)]; rw [List.getD_eq_getElem?_getD, List.getElem?_eq_getElem (by omega)] at e2; exact congrArg some e2)
    have hjm : j ∈ os := (ho j).mpr (by omega)
    refine ⟨?_, ?_⟩
    · rw [look_of_mem hnd (List.mem_map.mpr ⟨j, hjm, rfl⟩)]; rfl
    · show ((List.range 31).find? fun i => decide (f i = f j)).getD 0 < ((List.range 31).find? fun i => decide (f i = f k)).getD 0
      rw [rkf j (by omega), rkf k (by omega)]
      exact hj
  · intro n
    show ((List.range 31).find? fun k => decide (f k = n)).getD 0 ≤ 30
    cases e : (List.range 31).find? fun j => decide (f j = n) with
    | none => exact Nat.zero_le _
    | some j =>
      have := List.mem_range.mp (List.mem_of_find?_eq_some e)
      show j ≤ 30
      omega

/-! ### data: lists of numbers, dicts of bases -/
abbrev inD (c : List Int) : PyData := .list (c.map PyData.int)
theorem ins_dp {K : PySem.W.Frag} {H : Hp} : ∀ c : List Int, DpAll K H (c.map V.int) (c.map PyData.int)
  | [] => .nil
  | i :: r => .cons (.int i) (ins_dp r)
theorem inD_dp {K : PySem.W.Frag} {H : Hp} {p : Addr} {c : List Int} (h : SqL K H p (c.map V.int)) : Dp K H (.ref p) (inD c) := .lst h (ins_dp c)
theorem ins_lay : ∀ c : List Int, PyData.canLayAll0 (c.map PyData.int) = true
  | [] => rfl
  | i :: r => by
    rw [List.map_cons, PyData.canLayAll0, ins_lay r]
    rfl
theorem ins_depth : ∀ c : List Int, PyData.depthAll (c.map PyData.int) ≤ 1
  | [] => by decide
  | i :: r => by
    have := ins_depth r
    rw [List.map_cons, PyData.depthAll]
    have e : (PyData.int i).depth ≤ 1 := by rw [PyData.depth]; decide
    omega
theorem inD_shaped (c : List Int) : SeqAt.shaped (inD c) = true := by
  unfold SeqAt.shaped inD
  rw [PyData.canLay0, ins_lay, PyData.depth]
  have := ins_depth c
  simp
  omega
theorem bK_list (lv : List (Int × Option Int)) : ((bK lv).map fun kv => kV kv.1) = (lv.map Prod.fst).map V.int := by
  unfold bK
  rw [List.map_map, List.map_map]
  rfl
theorem obV_flat (o : Option Int) : flatB (obV o) = true := by cases o <;> rfl
theorem r_neB {K : PySem.W.Frag} {H : Hp} {Q : VK} {p q : Addr} {lv : List (Int × Option Int)} (hp : H p = some (.dK (bK lv))) (hq : H q = some (.dK (bK lv))) (nd : (lv.map Prod.fst).Nodup) (h : Q (.bl false) H) : rNeG K (.ref p) (.ref q) H Q := by
  refine .inr (.inr ⟨p, q, _, _, rfl, rfl, hp, hq, rfl, fun kv hkv => ?_, h⟩)
  obtain ⟨⟨n, o⟩, hm, rfl⟩ := List.mem_map.mp hkv
  exact ⟨by rw [bK_val, look_of_mem nd hm]; rfl, obV_flat o⟩

/-! ### the change between two texts -/
def lcp : List Nat → List Nat → Nat
  | a :: as, b :: bs => if a = b then lcp as bs + 1 else 0
  | _, _ => 0
theorem lcp_le1 : ∀ a b : List Nat, lcp a b ≤ a.length
  | [], _ => Nat.zero_le _
  | _ :: _, [] => Nat.zero_le _
  | x :: as, y :: bs => by
    rw [lcp, List.length_cons]
    by_cases h : x = y
    · rw [if_pos h]; exact Nat.succ_le_succ (lcp_le1 as bs)
    · rw [if_neg h]; exact Nat.zero_le _
theorem lcp_le2 : ∀ a b : List Nat, lcp a b ≤ b.length
  | [], _ => Nat.zero_le _
  | _ :: _, [] => Nat.zero_le _
  | x :: as, y :: bs => by
    rw [lcp, List.length_cons]
    by_cases h : x = y
    · rw [if_pos h]; exact Nat.succ_le_succ (lcp_le2 as bs)
    · rw [if_neg h]; exact Nat.zero_le _
theorem lcp_lt : ∀ (a b : List Nat) (k : Nat), k ≤ lcp a b → (k < lcp a b ↔ k < a.length ∧ k < b.length ∧ a[k]? = b[k]?)
  | [], b, k, h => by simp [lcp] at h ⊢
  | _ :: _, [], k, h => by simp [lcp] at h ⊢
  | x :: as, y :: bs, k, h => by
    rw [lcp] at h ⊢
    by_cases e : x = y
    · rw [if_pos e] at h ⊢
      subst e
      cases k with
      | zero => simp
      | succ k =>
        have := lcp_lt as bs k (by omega)
        simp only [List.length_cons, List.getElem?_cons_succ]
        exact ⟨fun q => have z := this.mp (by omega); ⟨by omega, by omega, z.2.2⟩, fun q => by have := this.mpr ⟨by omega, by omega, q.2.2⟩; omega⟩
    · rw [if_neg e] at h ⊢
      have : k = 0 := by omega
      subst this
      simp [e]
theorem lcp_take : ∀ (a b : List Nat) (i : Nat), i ≤ a.length → i ≤ b.length → (a.take i = b.take i ↔ i ≤ lcp a b)
  | _, _, 0, _, _ => by simp
  | [], _, i + 1, h, _ => by simp at h
  | _ :: _, [], i + 1, _, h => by simp at h
  | x :: as, y :: bs, i + 1, h1, h2 => by
    rw [lcp, List.take_succ_cons, List.take_succ_cons]
    by_cases e : x = y
    · rw [if_pos e]
      subst e
      have := lcp_take as bs i (by simpa using h1) (by simpa using h2)
      simp only [List.cons.injEq, true_and]
      exact ⟨fun q => Nat.succ_le_succ (this.mp q), fun q => this.mpr (by omega)⟩
    · rw [if_neg e]
      simp [e]
/-- how many signs at the end are left, of so many at most -/
def lcs (a b : List Nat) : Nat := lcp a.reverse b.reverse
def atOf (a b : List Nat) : Nat := lcp a b
def tailOf (a b : List Nat) : Nat := min (min a.length b.length - lcp a b) (lcs a b)
def goneOf (a b : List Nat) : List Nat := (a.drop (atOf a b)).take (a.length - tailOf a b - atOf a b)
def comeOf (a b : List Nat) : List Nat := (b.drop (atOf a b)).take (b.length - tailOf a b - atOf a b)
theorem part3 (a : List Nat) (i k : Nat) (h : i + k ≤ a.length) : a = a.take i ++ (a.drop i).take (a.length - k - i) ++ a.drop (a.length - k) := by
  have e : (a.drop i).drop (a.length - k - i) = a.drop (a.length - k) := by rw [List.drop_drop]; congr 1; omega
  rw [List.append_assoc, ← e, List.take_append_drop, List.take_append_drop]
theorem drop_rev (a : List Nat) (k : Nat) (h : k ≤ a.length) : a.drop (a.length - k) = (a.reverse.take k).reverse := by
  rw [List.take_reverse, List.reverse_reverse]
theorem tail_le (a b : List Nat) : atOf a b + tailOf a b ≤ a.length ∧ atOf a b + tailOf a b ≤ b.length := by
  unfold tailOf atOf
  have := lcp_le1 a b
  have := lcp_le2 a b
  omega
theorem tail_eq (a b : List Nat) : a.drop (a.length - tailOf a b) = b.drop (b.length - tailOf a b) := by
  have h := tail_le a b
  rw [drop_rev a _ (by omega), drop_rev b _ (by omega)]
  congr 1
  refine (lcp_take _ _ _ (by rw [List.length_reverse]; omega) (by rw [List.length_reverse]; omega)).mpr ?_
  unfold tailOf lcs
  omega
theorem head_eq (a b : List Nat) : a.take (atOf a b) = b.take (atOf a b) := (lcp_take a b _ (lcp_le1 a b) (lcp_le2 a b)).mpr (Nat.le_refl _)
/-- what both have alike ahead and behind -/
theorem change_parts (a b : List Nat) : ∃ p s, a = p ++ goneOf a b ++ s ∧ b = p ++ comeOf a b ++ s ∧ p.length = atOf a b ∧ s.length = tailOf a b := by
  have h := tail_le a b
  refine ⟨a.take (atOf a b), a.drop (a.length - tailOf a b), part3 a _ _ (by omega), ?_, by rw [List.length_take]; omega, by rw [List.length_drop]; omega⟩
  rw [head_eq, tail_eq]
  exact part3 b _ _ (by omega)
theorem change_fits (a b : List Nat) : Fits a (atOf a b : Int) (goneOf a b) ∧ doneL a (atOf a b : Int) (goneOf a b) (comeOf a b) = b := by
  obtain ⟨p, s, e1, e2, e3, _⟩ := change_parts a b
  generalize goneOf a b = g at *
  generalize comeOf a b = c at *
  rw [← e3]
  subst e1
  exact ⟨fits_of, by rw [done_of, ← e2]⟩
theorem gone_sub (a b : List Nat) : (goneOf a b).Sublist a := (List.take_sublist _ _).trans (List.drop_sublist _ _)
theorem come_sub (a b : List Nat) : (comeOf a b).Sublist b := (List.take_sublist _ _).trans (List.drop_sublist _ _)
theorem gone_len (a b : List Nat) : (goneOf a b).length + atOf a b + tailOf a b = a.length := by
  obtain ⟨p, s, e1, _, e3, e4⟩ := change_parts a b
  have := congrArg List.length e1
  simp only [List.length_append] at this
  omega
theorem come_len (a b : List Nat) : (comeOf a b).length + atOf a b + tailOf a b = b.length := by
  obtain ⟨p, s, _, e2, e3, e4⟩ := change_parts a b
  have := congrArg List.length e2
  simp only [List.length_append] at this
  omega
theorem join_ok {r : List Nat} {ls : List (List Nat)} (e : Txt.join (Str.ofString "") (ls.map S) = S r) (h : ∀ l ∈ ls, l.length = 1 ∧ Ok l) : Ok r := by
  have e0 : Str.ofString "" = S [] := by decide +kernel
  rw [e0, TL.join_eq] at e
  have e2 := congrArg TL.tl e
  rw [TL.tl_join] at e2
  have e3 : TL.joinL (TL.tl (S [])) ((ls.map S).map TL.tl) = TL.joinL [] ls := by
    have : (ls.map S).map TL.tl = ls := by rw [List.map_map]; exact (List.map_congr_left fun l _ => by simp [TL.tl]).trans (List.map_id ls)
    rw [this]
  rw [e3] at e2
  have e4 : ∀ m : List (List Nat), TL.joinL [] m = m.flatten := fun m => by
    induction m with
    | nil => rfl
    | cons a m ih =>
      cases m with
      | nil => simp [TL.joinL]
      | cons b m => rw [TL.joinL, ih]; rfl
  rw [e4] at e2
  have e5 : r = ls.flatten := by
    have : TL.tl (S r) = r := by simp [TL.tl]
    rw [this] at e2
    exact e2.symm
  subst e5
  intro c hc
  obtain ⟨l, hl, hcl⟩ := List.mem_flatten.mp hc
  exact (h l hl).2 c hcl
theorem r_join1 {K : PySem.W.Frag} {D : Addr} {H : Hp} {Q : VK} {ls : List (List Nat)} (hl : ∀ l ∈ ls, l.length = 1 ∧ Ok l) (e : H D = some (.lst (ls.map fun l => V.str (S l)))) (hn : ls.length ≤ 1000000)
    (h : ∀ r : List Nat, r.length = ls.length → Ok r → Q (.str (S r)) H) : rJoin K (.str (Str.ofString "")) [.ref D] H Q := by
  obtain ⟨r, er⟩ := S_of (Txt.join (Str.ofString "") (ls.map S))
  have hs : (ls.map S).map Str.length = ls.map fun _ => 1 := by
    rw [List.map_map]
    refine List.map_congr_left fun l h => ?_
    show (S l).length = 1
    rw [S_len, (hl l h).1]
  have sum1 : ∀ m : List (List Nat), (m.map fun _ => 1).sum = m.length := fun m => by
    induction m with
    | nil => rfl
    | cons a m ih => rw [List.map_cons, List.sum_cons, ih, List.length_cons]; omega
  refine ⟨_, D, ls.map S, rfl, rfl, .inl (.of (by rw [List.map_map]; exact e)), ?_, ?_⟩
  · rw [hs, sum1, List.length_map]
    show ls.length + ls.length * 0 ≤ 16777216
    omega
  · rw [er]
    refine h r ?_ (join_ok er hl)
    have q := size_glued (Str.ofString "") (ls.map S)
    rw [hs, sum1, List.length_map] at q
    have q2 : (S r).length = ls.length + (ls.length - 1) * (Str.ofString "").length := by rw [← er]; exact q
    rw [S_len] at q2
    have q3 : (Str.ofString "").length = 0 := by decide +kernel
    rw [q3] at q2
    omega

/-- all that both have alike, ahead and behind -/
def mostOf (a b : List Nat) : Nat := min (min a.length b.length) (lcp a b + lcs a b)
theorem most_eq (a b : List Nat) : mostOf a b = atOf a b + tailOf a b := by
  unfold mostOf atOf tailOf
  have := lcp_le1 a b
  have := lcp_le2 a b
  omega
theorem drop_eq_iff (a b : List Nat) (k : Nat) (ha : k ≤ a.length) (hb : k ≤ b.length) : a.drop (a.length - k) = b.drop (b.length - k) ↔ k ≤ lcs a b := by
  rw [drop_rev a k ha, drop_rev b k hb]
  rw [show (a.reverse.take k).reverse = (b.reverse.take k).reverse ↔ a.reverse.take k = b.reverse.take k from ⟨fun h => List.reverse_inj.mp h, fun h => by rw [h]⟩]
  exact lcp_take _ _ _ (by rw [List.length_reverse]; exact ha) (by rw [List.length_reverse]; exact hb)
def mo (n l i : Nat) : Nat := if i = 0 then 0 else min n (i - 1 + l)
theorem mo_succ (n l i : Nat) : mo n l (i + 1) = min n (i + l) := by
  unfold mo
  rw [if_neg (by omega), Nat.add_sub_cancel]
theorem mo_le (n l i : Nat) : mo n l i ≤ min n (i + l) := by
  unfold mo
  by_cases h : i = 0
  · rw [if_pos h]; omega
  · rw [if_neg h]; omega
/-- the signs at the place differ, or a text ends there -/
theorem at_differ (a b : List Nat) (h1 : atOf a b < a.length) (h2 : atOf a b < b.length) : a[atOf a b]? ≠ b[atOf a b]? := fun e => by
  have := (lcp_lt a b (lcp a b) (Nat.le_refl _)).mpr ⟨h1, h2, e⟩
  omega
/-- so do the last ones of what goes and of what comes -/
theorem last_differ (a b : List Nat) (h1 : goneOf a b ≠ []) (h2 : comeOf a b ≠ []) : (goneOf a b).getLast? ≠ (comeOf a b).getLast? := by
  have g1 := gone_len a b
  have g2 := come_len a b
  have p1 : 0 < (goneOf a b).length := List.length_pos_iff.mpr h1
  have p2 : 0 < (comeOf a b).length := List.length_pos_iff.mpr h2
  obtain ⟨p, s, e1, e2, e3, e4⟩ := change_parts a b
  intro e
  have hk : lcs a b ≤ tailOf a b := by
    unfold tailOf atOf at *
    omega
  have hl := (lcp_lt a.reverse b.reverse (lcs a b) (Nat.le_refl _)).mpr
  rw [List.length_reverse, List.length_reverse] at hl
  have hz : tailOf a b = lcs a b := Nat.le_antisymm (Nat.min_le_right _ _) hk
  have idx : ∀ (g : List Nat), 0 < g.length → (p ++ g ++ s).reverse[lcs a b]? = g.getLast? := fun g hg => by
    rw [List.reverse_append, List.getElem?_append_right (by rw [List.length_reverse]; omega), List.length_reverse, show lcs a b - s.length = 0 by omega, List.reverse_append, List.getElem?_append_left (by rw [List.length_reverse]; omega), List.getElem?_reverse (by omega), List.getLast?_eq_getElem?, Nat.sub_zero]
  have := hl ⟨by omega, by omega, by
    have i1 := idx _ p1
    have i2 := idx _ p2
    rw [← e1] at i1
    rw [← e2] at i2
    rw [i1, i2]
    exact e⟩
  unfold lcs at *
  omega
end Pk
/-! PkF: the mathematics of trees of versions: chains, how far two versions stand apart, reach and middle. -/
namespace Pk
open PySem PySem.Spec L2
/-- numbers without a double among others are not more -/
theorem nodup_len {α : Type} : ∀ (l m : List α), l.Nodup → (∀ x ∈ l, x ∈ m) → l.length ≤ m.length
  | [], _, _, _ => Nat.zero_le _
  | a :: l, m, nd, h => by
    rw [List.nodup_cons] at nd
    obtain ⟨s, t, rfl⟩ := List.append_of_mem (h a List.mem_cons_self)
    have := nodup_len l (s ++ t) nd.2 fun x hx => by
      have := h x (List.mem_cons_of_mem _ hx)
      rcases List.mem_append.mp this with q | q
      · exact List.mem_append_left _ q
      · rcases List.mem_cons.mp q with q | q
        · subst q; exact absurd hx nd.1
        · exact List.mem_append_right _ q
    simp only [List.length_append, List.length_cons] at *
    omega
abbrev keysOf {β : Type} (lv : List (Int × β)) : List Int := lv.map Prod.fst
theorem look_some {β : Type} {lv : List (Int × β)} {n : Int} : (look lv n).isSome ↔ n ∈ keysOf lv := by
  cases e : look lv n with
  | none => have := look_none.mp e; simp [this]
  | some b =>
    have : n ∈ keysOf lv := List.mem_map.mpr ⟨(n, b), look_mem e, rfl⟩
    simp [this]
/-! ### chains -/
section
variable {lv : List (Int × Option Int)}
/-- behind each of its numbers a chain is that number's -/
theorem Ch.suffix {n : Int} {c : List Int} (h : Ch lv n c) : ∀ {x : Int} {p s : List Int}, c = p ++ x :: s → Ch lv x (x :: s) := by
  induction h with
  | @whole n e =>
    intro x p s q
    cases p with
    | nil => cases q; exact .whole e
    | cons a p => simp at q
  | @lean n b c e hb ih =>
    intro x p s q
    cases p with
    | nil => cases q; exact .lean e hb
    | cons a p =>
      injection q with q1 q2
      exact ih q2
theorem Ch.mem {n : Int} {c : List Int} (h : Ch lv n c) {x : Int} (hx : x ∈ c) : ∃ p s, c = p ++ x :: s ∧ Ch lv x (x :: s) := by
  obtain ⟨p, s, e⟩ := List.append_of_mem hx
  exact ⟨p, s, e, h.suffix e⟩
theorem Ch.nodup {n : Int} {c : List Int} (h : Ch lv n c) : c.Nodup := by
  induction h with
  | whole e => simp
  | @lean n b c e hb ih =>
    rw [List.nodup_cons]
    refine ⟨fun hn => ?_, ih⟩
    obtain ⟨p, s, e2, h2⟩ := hb.mem hn
    have h3 : Ch lv n (n :: c) := .lean e hb
    have := congrArg List.length (h2.inj h3)
    have := congrArg List.length e2
    simp only [List.length_append, List.length_cons] at *
    omega
theorem Ch.keys {n : Int} {c : List Int} (h : Ch lv n c) : ∀ x ∈ c, x ∈ keysOf lv := fun x hx => by
  obtain ⟨p, s, _, h2⟩ := h.mem hx
  obtain ⟨o, e⟩ := h2.look
  exact look_some.mp (by rw [e]; rfl)
theorem Ch.len {n : Int} {c : List Int} (h : Ch lv n c) : c.length ≤ lv.length := by
  have := nodup_len c (keysOf lv) h.nodup h.keys
  rw [List.length_map] at this
  exact this
/-- the last of a chain -/
def lastOf (c : List Int) : Int := c.getLast?.getD 0
theorem lastOf_app (p : List Int) (x : Int) (s : List Int) : lastOf (p ++ x :: s) = lastOf (x :: s) := by
  unfold lastOf
  rw [List.getLast?_append]
  cases e : (x :: s).getLast? with
  | none => simp at e
  | some y => rfl
theorem lastOf_cons (x y : Int) (s : List Int) : lastOf (x :: y :: s) = lastOf (y :: s) := lastOf_app [x] y s
theorem Ch.last {n : Int} {c : List Int} (h : Ch lv n c) : lastOf c ∈ c ∧ Pk.look lv (lastOf c) = some none := by
  induction h with
  | @whole n e => exact ⟨List.mem_cons_self, e⟩
  | @lean n b c e hb ih =>
    obtain ⟨r, rfl⟩ := hb.head
    rw [lastOf_cons]
    exact ⟨List.mem_cons_of_mem _ ih.1, ih.2⟩
theorem Ch.last_of_mem {n x : Int} {c d : List Int} (h : Ch lv n c) (hx : x ∈ c) (hd : Ch lv x d) : lastOf d = lastOf c := by
  obtain ⟨p, s, e, h2⟩ := h.mem hx
  rw [hd.inj h2, e, lastOf_app]
/-! ### how far apart -/
def btw : List Int → List Int → Nat
  | [], _ => 0
  | x :: r, c => if x ∈ c then c.idxOf x else btw r c + 1
theorem idx_app {x : Int} {p s : List Int} (h : x ∉ p) : (p ++ x :: s).idxOf x = p.length := by
  rw [List.idxOf_append, if_neg h, List.idxOf_cons_self]
  omega
/-- two chains of a tree: what they have ahead of the first version on both -/
theorem split2 {n m : Int} {c d : List Int} (h : Ch lv n c) (g : Ch lv m d) (e : lastOf c = lastOf d) :
    ∃ p q z t, c = p ++ z :: t ∧ d = q ++ z :: t ∧ (∀ x ∈ p, x ∉ d) ∧ (∀ x ∈ q, x ∉ c) := by
  have key : ∀ (c1 : List Int), (∃ c0, c = c0 ++ c1) → (∃ x ∈ c1, x ∈ d) → ∃ p z t, c1 = p ++ z :: t ∧ z ∈ d ∧ ∀ x ∈ p, x ∉ d := fun c1 => by
    induction c1 with
    | nil => intro _ ⟨x, hx, _⟩; cases hx
    | cons a r ih =>
      intro ⟨c0, e0⟩ ⟨x, hx, hd⟩
      by_cases ha : a ∈ d
      · exact ⟨[], a, r, rfl, ha, fun _ z => by cases z⟩
      · rcases List.mem_cons.mp hx with q | q
        · subst q; exact absurd hd ha
        · obtain ⟨p, z, t, e1, e2, e3⟩ := ih ⟨c0 ++ [a], by rw [e0]; simp⟩ ⟨x, q, hd⟩
          exact ⟨a :: p, z, t, by rw [e1]; rfl, e2, fun y hy => by
            rcases List.mem_cons.mp hy with q | q
            · subst q; exact ha
            · exact e3 y q⟩
  obtain ⟨p, z, t, e1, hz, hp⟩ := key c ⟨[], rfl⟩ ⟨lastOf c, h.last.1, by rw [e]; exact g.last.1⟩
  obtain ⟨q, t2, e2, h2⟩ := g.mem hz
  have h1 := h.suffix e1
  have et := h1.inj h2
  injection et with _ et
  subst et
  refine ⟨p, q, z, t, e1, e2, hp, fun x hx hc => ?_⟩
  rw [e1] at hc
  rcases List.mem_append.mp hc with k | k
  · exact hp x k (by rw [e2]; exact List.mem_append_left _ hx)
  · have nd := g.nodup
    rw [e2, List.nodup_append] at nd
    exact nd.2.2 x hx x k rfl
theorem btw_split {p q t : List Int} {z : Int} (hp : ∀ x ∈ p, x ∉ q ++ z :: t) (hz : z ∉ q) : btw (p ++ z :: t) (q ++ z :: t) = p.length + q.length := by
  induction p with
  | nil =>
    show (if z ∈ q ++ z :: t then (q ++ z :: t).idxOf z else _) = _
    rw [if_pos (by simp), idx_app hz]
    simp
  | cons a p ih =>
    show (if a ∈ q ++ z :: t then _ else btw (p ++ z :: t) (q ++ z :: t) + 1) = _
    rw [if_neg (hp a List.mem_cons_self), ih fun x hx => hp x (List.mem_cons_of_mem _ hx), List.length_cons]
    omega
theorem btw_val {n m : Int} {c d : List Int} (h : Ch lv n c) (g : Ch lv m d) (e : lastOf c = lastOf d) : ∃ p q z t, c = p ++ z :: t ∧ d = q ++ z :: t ∧ btw c d = p.length + q.length ∧ btw d c = p.length + q.length := by
  obtain ⟨p, q, z, t, e1, e2, hp, hq⟩ := split2 h g e
  refine ⟨p, q, z, t, e1, e2, ?_, ?_⟩
  · rw [e1, e2]
    exact btw_split (by rw [← e2]; exact hp) fun hz => hq z hz (by rw [e1]; simp)
  · rw [e1, e2, btw_split (by rw [← e1]; exact hq) fun hz => hp z hz (by rw [e2]; simp)]
    omega
theorem btw_comm {n m : Int} {c d : List Int} (h : Ch lv n c) (g : Ch lv m d) (e : lastOf c = lastOf d) : btw c d = btw d c := by
  obtain ⟨_, _, _, _, _, _, e1, e2⟩ := btw_val h g e
  rw [e1, e2]
theorem btw_le {n m : Int} {c d : List Int} (h : Ch lv n c) (g : Ch lv m d) (e : lastOf c = lastOf d) : btw c d + 2 ≤ c.length + d.length := by
  obtain ⟨p, q, z, t, e1, e2, e3, _⟩ := btw_val h g e
  have := congrArg List.length e1
  have := congrArg List.length e2
  simp only [List.length_append, List.length_cons] at *
  omega
/-- a step to the base, seen from d -/
theorem btw_step {n b m : Int} {c d : List Int} (e : look lv n = some (some b)) (hb : Ch lv b c) (g : Ch lv m d) (el : lastOf c = lastOf d) :
    (n ∈ d ∧ btw c d = btw (n :: c) d + 1) ∨ (n ∉ d ∧ btw (n :: c) d = btw c d + 1) := by
  by_cases hn : n ∈ d
  · left
    refine ⟨hn, ?_⟩
    obtain ⟨q, s, ed, h2⟩ := g.mem hn
    have h3 := h2.inj (.lean e hb)
    injection h3 with _ h3
    subst h3
    have nd := g.nodup
    obtain ⟨r, rfl⟩ := hb.head
    rw [ed, List.nodup_append] at nd
    have hq1 : n ∉ q := fun k => nd.2.2 n k n List.mem_cons_self rfl
    have hq2 : b ∉ q := fun k => nd.2.2 b k b (by simp) rfl
    have hnb : n ≠ b := fun k => by
      have := nd.2.1
      rw [List.nodup_cons] at this
      exact this.1 (by rw [k]; simp)
    show btw (b :: r) d = (if n ∈ d then d.idxOf n else _) + 1
    rw [if_pos hn]
    show (if b ∈ d then d.idxOf b else _) = _
    rw [if_pos (by rw [ed]; simp), ed, idx_app hq1, show q ++ n :: b :: r = (q ++ [n]) ++ b :: r by simp, idx_app (by simp only [List.mem_append, List.mem_singleton]; exact fun k => k.elim hq2 fun z => hnb z.symm)]
    simp
  · right
    refine ⟨hn, ?_⟩
    show (if n ∈ d then _ else btw c d + 1) = _
    rw [if_neg hn]
theorem btw_self {m : Int} {d : List Int} (g : Ch lv m d) : btw d d = 0 := by
  obtain ⟨r, rfl⟩ := g.head
  show (if m ∈ m :: r then (m :: r).idxOf m else _) = 0
  rw [if_pos List.mem_cons_self, List.idxOf_cons_self]
theorem btw_zero {n m : Int} {c d : List Int} (h : Ch lv n c) (g : Ch lv m d) (e : lastOf c = lastOf d) (z : btw c d = 0) : n = m := by
  obtain ⟨p, q, w, t, e1, e2, e3, _⟩ := btw_val h g e
  have hp : p = [] := List.eq_nil_of_length_eq_zero (by omega)
  have hq : q = [] := List.eq_nil_of_length_eq_zero (by omega)
  subst hp hq
  obtain ⟨r, rfl⟩ := h.head
  obtain ⟨s, rfl⟩ := g.head
  injection e1 with e1 _
  injection e2 with e2 _
  rw [e1, e2]
end
/-! ### trees -/
structure Forest (lv : List (Int × Option Int)) : Prop where
  nd : (keysOf lv).Nodup
  wf : ∃ rk, Wood lv rk
  len : lv.length ≤ 1000
section
variable {lv : List (Int × Option Int)}
theorem Forest.ch (F : Forest lv) {n : Int} (h : n ∈ keysOf lv) : ∃ c, Ch lv n c := by
  obtain ⟨rk, w⟩ := F.wf
  obtain ⟨c, hc, _⟩ := w.ch (rk n) n (Nat.le_refl _) (look_some.mpr h)
  exact ⟨c, hc⟩
def Adj (lv : List (Int × Option Int)) (x y : Int) : Prop := look lv x = some (some y) ∨ look lv y = some (some x)
/-- x stands so far from the version whose chain is d, in its tree -/
def Far (lv : List (Int × Option Int)) (d : List Int) (x : Int) (k : Nat) : Prop := ∃ c, Ch lv x c ∧ lastOf c = lastOf d ∧ btw c d = k
theorem Far.inj {d : List Int} {x : Int} {j k : Nat} (h : Far lv d x j) (g : Far lv d x k) : j = k := by
  obtain ⟨c, hc, _, e⟩ := h
  obtain ⟨c2, hc2, _, e2⟩ := g
  rw [hc.inj hc2] at e
  omega
theorem Far.key {d : List Int} {x : Int} {k : Nat} (h : Far lv d x k) : x ∈ keysOf lv := by
  obtain ⟨c, hc, _⟩ := h
  obtain ⟨r, rfl⟩ := hc.head
  exact hc.keys x List.mem_cons_self
theorem Far.len {m : Int} {d : List Int} (g : Ch lv m d) {x : Int} {k : Nat} (h : Far lv d x k) : k ≤ 2 * lv.length := by
  obtain ⟨c, hc, e, rfl⟩ := h
  have := btw_le hc g e
  have := hc.len
  have := g.len
  omega
/-- a neighbour stands one farther or one nearer -/
theorem Far.adj {m : Int} {d : List Int} (g : Ch lv m d) (F : Forest lv) {x y : Int} {k : Nat} (h : Far lv d x k) (a : Adj lv x y) : ∃ j, Far lv d y j ∧ (j = k + 1 ∨ k = j + 1) := by
  obtain ⟨c, hc, e, rfl⟩ := h
  rcases a with a | a
  · cases hc with
    | whole e2 => rw [e2] at a; cases a
    | @lean _ b c e2 hb =>
      rw [e2] at a; cases a
      obtain ⟨r, rfl⟩ := hb.head
      rw [lastOf_cons] at e
      refine ⟨_, ⟨_, hb, e, rfl⟩, ?_⟩
      rcases btw_step e2 hb g e with ⟨_, q⟩ | ⟨_, q⟩ <;> omega
  · have hy : Ch lv y (y :: c) := .lean a hc
    obtain ⟨r, rfl⟩ := hc.head
    refine ⟨_, ⟨_, hy, by rw [lastOf_cons]; exact e, rfl⟩, ?_⟩
    rcases btw_step a hc g e with ⟨_, q⟩ | ⟨_, q⟩ <;> omega
/-- who stands farther than nought has a neighbour that stands one nearer -/
theorem Far.nearer {m : Int} {d : List Int} (g : Ch lv m d) {y : Int} {k : Nat} (h : Far lv d y (k + 1)) : ∃ x, Far lv d x k ∧ Adj lv x y := by
  obtain ⟨c, hc, e, ek⟩ := h
  by_cases hy : y ∈ d
  · obtain ⟨q, s, ed, h2⟩ := g.mem hy
    have ec := hc.inj h2
    subst ec
    have nd := g.nodup
    rw [ed, List.nodup_append] at nd
    have hq : y ∉ q := fun k => nd.2.2 y k y List.mem_cons_self rfl
    have el : btw (y :: s) d = q.length := by
      show (if y ∈ d then d.idxOf y else _) = _
      rw [if_pos hy, ed, idx_app hq]
    rw [el] at ek
    obtain ⟨q2, x, rfl⟩ : ∃ q2 x, q = q2 ++ [x] := ⟨q.dropLast, q.getLast (by intro z; rw [z] at ek; cases ek), (List.dropLast_concat_getLast _).symm⟩
    have ed2 : d = q2 ++ x :: (y :: s) := by rw [ed]; simp
    have hx := g.suffix ed2
    have hq3 : x ∉ q2 := fun k => by
      have := nd.1
      rw [List.nodup_append] at this
      exact this.2.2 x k x List.mem_cons_self rfl
    refine ⟨x, ⟨_, hx, by rw [ed2, lastOf_app], ?_⟩, ?_⟩
    · show (if x ∈ d then d.idxOf x else _) = _
      rw [if_pos (by rw [ed2]; simp), ed2, idx_app hq3]
      simp at ek
      omega
    · cases hx with
      | lean e3 hb =>
        obtain ⟨r, er⟩ := hb.head
        injection er with er _
        subst er
        exact .inl e3
  · cases hc with
    | whole e2 =>
      exfalso
      apply hy
      have : lastOf [y] = y := rfl
      rw [this] at e
      rw [e]
      exact g.last.1
    | @lean _ b c e2 hb =>
      obtain ⟨r, rfl⟩ := hb.head
      rw [lastOf_cons] at e
      refine ⟨b, ⟨_, hb, e, ?_⟩, .inr e2⟩
      rcases btw_step e2 hb g e with ⟨q, _⟩ | ⟨_, q⟩
      · exact absurd q hy
      · omega
/-- a version's reach -/
def RS (lv : List (Int × Option Int)) (n : Int) (r : Nat) : Prop := ∃ d, Ch lv n d ∧ (∃ x, Far lv d x r) ∧ ∀ x k, Far lv d x k → k ≤ r
theorem RS.inj {n : Int} {r s : Nat} (h : RS lv n r) (g : RS lv n s) : r = s := by
  obtain ⟨d, hd, ⟨x, hx⟩, hm⟩ := h
  obtain ⟨d2, hd2, ⟨y, hy⟩, hm2⟩ := g
  have := hd.inj hd2
  subst this
  have := hm _ _ hy
  have := hm2 _ _ hx
  omega
/-- in the tree of n -/
def InTree (lv : List (Int × Option Int)) (n x : Int) : Prop := ∃ c d, Ch lv n c ∧ Ch lv x d ∧ lastOf d = lastOf c
/-- the middle of a version's tree -/
def MS (lv : List (Int × Option Int)) (n m : Int) : Prop := InTree lv n m ∧ ∃ r, RS lv m r ∧ ∀ x s, InTree lv n x → RS lv x s → r ≤ s ∧ (s = r → x ≤ m)
end
end Pk
/-! PkG: dicts that are walked (locked meanwhile), dicts with marks, lists of numbers. -/
namespace Pk
open PySem PySem.Spec L2
/-- the heap but for what stands at d -/
def Off (d : Addr) (H H1 : Hp) : Prop := (∃ o, H1 d = some o) ∧ ∀ b o, b ≠ d → H b = some o → H1 b = some o
section
variable {d p : Addr} {H0 H H1 : Hp} {u o : HO}
theorem Off.of (s : Same H0 H) (c : Chg d u H H1) : Off d H0 H1 := ⟨⟨_, c.1⟩, fun b o n e => c.2 b o n (s b o e)⟩
theorem Off.sm (f : Off d H0 H) (s : Same H H1) : Off d H0 H1 := ⟨f.1.imp fun o e => s _ _ e, fun b o n e => s _ _ (f.2 b o n e)⟩
theorem Off.ne (f : Off d H0 H) (e : H p = none) : p ≠ d := fun z => by
  obtain ⟨o, h⟩ := f.1
  rw [z, h] at e; cases e
theorem Off.free (f : Off d H0 H) (e : H p = none) : H0 p = none := by
  cases h : H0 p with
  | none => rfl
  | some o => have := f.2 p o (f.ne e) h; rw [e] at this; cases this
theorem Off.chg (f : Off d H0 H) (e : H0 p = none) (np : p ≠ d) (c : Chg p o H H1) : Off d H0 H1 := ⟨f.1.imp fun o h => c.2 d o np.symm h, fun b o n h => c.2 b o (ne_of_none h e) (f.2 b o n h)⟩
theorem Off.back (f : Off d H0 H) (e : H0 d = some u) (c : Chg d u H H1) : Same H0 H1 := fun b o h => by
  by_cases z : b = d
  · subst z; rw [e] at h; cases h; exact c.1
  · exact c.2 b o z (f.2 b o z h)
theorem Off.at (f : Off d H0 H) (e : H0 p = some o) (np : p ≠ d) : H p = some o := f.2 p o np e
theorem ne_val {a b : Addr} {H : Hp} {x y : HO} (h1 : H a = some x) (h2 : H b = some y) (n : x ≠ y) : a ≠ b := fun e => by
  subst e; rw [h1] at h2; cases h2; exact n rfl
end
section
variable {d : Addr} {kvs : List (Key × V)} {H : Hp} {nx : St → Hp → Prop} {rt : VK} {bk ct : St → Hp → Prop} {σ : St} {t : TS} {te : TE} {Q : VK}
/-- at the end of a lock -/
def Un (d : Addr) (od : Obj) (kvs : List (Key × V)) (F : Hp → Prop) (H : Hp) : Prop := H d = some (.frz od (.dK kvs)) ∧ F (upd H d (.dK kvs))
theorem un {od : Obj} {F : Hp → Prop} (e : H d = some (.frz od (.dK kvs))) (h : ∀ H2, Chg d (.dK kvs) H H2 → F H2) : Un d od kvs F H := ⟨e, h _ chg_upd⟩
theorem r_lock (e : H d = some (.dK kvs)) (h : ∀ od H1, Chg d (.frz od (.dK kvs)) H H1 → t ⟨fun σ' H' => Un d od kvs (nx σ') H', fun v H' => Un d od kvs (rt v) H', fun σ' H' => Un d od kvs (bk σ') H', fun σ' H' => Un d od kvs (ct σ') H'⟩ σ H1) :
    tLock t ⟨nx, rt, bk, ct⟩ σ H := ⟨d, _, e, trivial, fun od => h od _ chg_upd⟩
theorem r_lockE (e : H d = some (.dK kvs)) (h : ∀ od H1, Chg d (.frz od (.dK kvs)) H H1 → te σ H1 fun v H' => Un d od kvs (Q v) H') : tLockE te σ H Q := ⟨d, _, e, trivial, fun od => h od _ chg_upd⟩
theorem r_disp1 {ta tb : TE} {n : Int} {v : V} (ha : ∀ H1 (Q : VK), Q (.int n) H1 → ta σ H1 Q) (hb : ∀ H1 (Q : VK), Q v H1 → tb σ H1 Q) (h : Nw H (.dK [(.inl n, v)]) Q) : tDisp [(ta, tb)] σ H Q := by
  intro p hp
  show ta σ (upd H p (.dK [])) fun x H1 => _
  refine ha _ _ (hb _ _ ?_)
  refine ⟨upd_same, [(.inl n, v)], rfl, (show 1 ≤ 15 by decide), ?_⟩
  have e : upd (upd H p (.dK [])) p (.dK (mergeK [] [(Sum.inl n, v)])) = upd H p (.dK [(.inl n, v)]) := by
    rw [upd_upd]
    rfl
  rw [e]
  exact h.go p hp
end
/-! ### dicts from numbers to values -/
def nK (f : Int → V) (ks : List Int) : List (Key × V) := ks.map fun n => (.inl n, f n)
theorem nK_val (f : Int → V) (n : Int) : ∀ ks : List Int, valV (nK f ks) (.inl n) = if n ∈ ks then some (f n) else none
  | [] => rfl
  | a :: r => by
    have ih := nK_val f n r
    unfold valV nK at *
    rw [List.map_cons, List.find?_cons]
    by_cases h : a = n
    · subst h; simp
    · have e : decide ((Sum.inl a : Key) = Sum.inl n) = false := decide_eq_false fun q => h (Sum.inl.inj q)
      simp only [e]
      rw [ih]
      have h2 : n ≠ a := fun z => h z.symm
      simp [h2]
theorem nK_in {f : Int → V} {n : Int} {ks : List Int} (h : n ∈ ks) : valV (nK f ks) (.inl n) = some (f n) := by rw [nK_val, if_pos h]
theorem nK_put {f : Int → V} {n : Int} {ks : List Int} (h : n ∉ ks) : putK (nK f ks) (.inl n) (f n) = nK f (ks ++ [n]) := by
  rw [putK_new _ (by rw [nK_val, if_neg h])]
  unfold nK
  rw [List.map_append]
  rfl
theorem nK_len (f : Int → V) (ks : List Int) : (nK f ks).length = ks.length := List.length_map _
theorem nK_congr {f g : Int → V} {ks : List Int} (h : ∀ n ∈ ks, f n = g n) : nK f ks = nK g ks := List.map_congr_left fun n hn => by rw [h n hn]
theorem bK_at {lv : List (Int × Option Int)} {i : Nat} (h : i < lv.length) : (bK lv)[i]? = some (.inl lv[i].1, obV lv[i].2) := by
  unfold bK
  rw [List.getElem?_map, List.getElem?_eq_getElem h]
  rfl
theorem nK_at {f : Int → V} {ks : List Int} {i : Nat} (h : i < ks.length) : (nK f ks)[i]? = some (.inl ks[i], f ks[i]) := by
  unfold nK
  rw [List.getElem?_map, List.getElem?_eq_getElem h]
  rfl
theorem take_succ {α : Type} {l : List α} {i : Nat} (h : i < l.length) : l.take (i + 1) = l.take i ++ [l[i]] := by
  rw [List.take_add_one, List.getElem?_eq_getElem h]; rfl
def fu {α : Type} (f : Int → α) (k : Int) (v : α) (n : Int) : α := if n = k then v else f n
theorem fu_eq {α : Type} {f : Int → α} {k : Int} {v : α} : fu f k v k = v := if_pos rfl
theorem fu_ne {α : Type} {f : Int → α} {k n : Int} {v : α} (h : n ≠ k) : fu f k v n = f n := if_neg h
theorem last_at {lv : List (Int × Option Int)} {c : List Int} {x : Int} (hc : Ch lv x c) : atI (c.map V.int) (-1) = some (.int (lastOf c)) := by
  obtain ⟨r, y, rfl⟩ : ∃ r y, c = r ++ [y] := by
    obtain ⟨s, rfl⟩ := hc.head
    exact ⟨_, _, (List.dropLast_concat_getLast (List.cons_ne_nil _ _)).symm⟩
  rw [lastOf_app, List.map_append]
  exact atI_last _ _
theorem eqv_inD : ∀ c d : List Int, PyData.eqv (inD c) (inD d) = decide (c = d)
  | [], [] => rfl
  | [], b :: d => rfl
  | a :: c, [] => rfl
  | a :: c, b :: d => by
    have ih := eqv_inD c d
    unfold inD at *
    rw [PyData.eqv] at ih
    rw [List.map_cons, List.map_cons, PyData.eqv, PyData.eqvAll, ih]
    by_cases h : a = b
    · subst h
      by_cases h2 : c = d
      · subst h2; simp [PyData.eqv]
      · simp [h2]
    · have : PyData.eqv (.int a) (.int b) = false := by simp [PyData.eqv, h]
      rw [this]
      simp [h]
end Pk
/-! PkT: try with several clauses: each names one class or a tuple of classes, with or without a name; calls of methods in a try. -/
namespace PySem.W
open PySem PySem.Spec PySem.Calls PyProof.Rows
section
variable {M : Model} {K : Frag}
theorem exm_tup5 {c1 c2 c3 c4 c5 cls : Value} {tp e : Addr} {b : Bool} {h : Heap} (X : K.In h) (LT : Looks M h (typeOf (.ref e)) cls) (hp : h.get? tp = some { cls := .type "tuple", data := .seq [c1, c2, c3, c4, c5].toArray }) (hx : exmAny K cls [c1, c2, c3, c4, c5] = some b) :
    Looks M h (excMatches (.ref e) (.ref tp)) b := by
  intro A Q E s k₀ q
  obtain ⟨hh, g, d, tk, os⟩ := s
  have k : ∀ b o, h.get? b = some o → hh.get? b = some o := k₀
  have LT0 : Looks M h (isInstance (.ref tp) (.type "tuple")) true := ((Looks.ld hp).andThen .now).andThen (Looks.of_pure isSubtype_tuple_tuple)
  obtain ⟨b1, d1, x1, y1, z1⟩ := exmAny_cons hx
  obtain ⟨e1, S1⟩ := exm_cls (M := M) X x1
  have e1 := e1.keeps k
  have S1 := S1.keeps k
  obtain ⟨b2, d2, x2, y2, z2⟩ := exmAny_cons y1
  obtain ⟨e2, S2⟩ := exm_cls (M := M) X x2
  have e2 := e2.keeps k
  have S2 := S2.keeps k
  obtain ⟨b3, d3, x3, y3, z3⟩ := exmAny_cons y2
  obtain ⟨e3, S3⟩ := exm_cls (M := M) X x3
  have e3 := e3.keeps k
  have S3 := S3.keeps k
  obtain ⟨b4, d4, x4, y4, z4⟩ := exmAny_cons y3
  obtain ⟨e4, S4⟩ := exm_cls (M := M) X x4
  have e4 := e4.keeps k
  have S4 := S4.keeps k
  obtain ⟨b5, d5, x5, y5, z5⟩ := exmAny_cons y4
  obtain ⟨e5, S5⟩ := exm_cls (M := M) X x5
  have e5 := e5.keeps k
  have S5 := S5.keeps k
  have w5 : some false = some d5 := y5
  cases w5
  have LT := LT.keeps k
  have LT0 := LT0.keeps k
  have hp' := k _ _ hp
  subst z1 z2 z3 z4 z5
  unfold excMatches
  refine wpAny_bind (LT0.at ?_)
  dsimp only
  rw [if_pos rfl]
  first
    | refine wpAny_bind (wpAny_seqItems hp' rfl ?_)
    | refine wpAny_bind (wpAny_bind (wpAny_seqItems hp' rfl (wpAny_pure ?_)))
  dsimp only [Option.getD_some, Option.getD]
  cases b1 <;> cases b2 <;> cases b3 <;> cases b4 <;> cases b5 <;> ((repeat (first | simp only [List.forIn_cons, List.forIn_nil, Bool.not_true, Bool.false_eq_true, if_false, if_true] | lk)); exact q)
theorem exm_one1 {c cls : Value} {e : Addr} {b : Bool} {h : Heap} (X : K.In h) (LT : Looks M h (typeOf (.ref e)) cls) (hx : exmAny K cls [c] = some b) : Looks M h (excMatches (.ref e) c) b := by
  obtain ⟨b1, d1, x1, y1, z1⟩ := exmAny_cons hx
  have w : some false = some d1 := y1
  cases w
  rw [Bool.or_false] at z1
  subst z1
  exact exm_one X LT x1
end
end PySem.W
namespace L2
open PySem PySem.Spec PyProof.Rows
theorem flyingZ_keeps {B h h' : Heap} {l : List Env} {a : Addr} {Z : Obj → Prop} (x : HandSPX.FlyingZ B l a Z h) (k : ∀ b o, h.get? b = some o → h'.get? b = some o) : HandSPX.FlyingZ B l a Z h' := by
  obtain ⟨f1, f2, f3, oe, vs, T, oT, ts, he, hz, hd, h1, hn, hne, hT, hdT, h3⟩ := x
  exact ⟨fun b o q => k b o (f1 b o q), f2, f3.of_keeps fun b o q _ => ⟨o, k b o q, rfl⟩, oe, vs, T, oT, ts, k _ _ he, hz, hd, h1, hn, hne, k _ _ hT, hdT, h3⟩
/-- the test of an except clause: what it evaluates to, and what it matches -/
def ClT (X : Cx) (t : Expr) (cs : List Value) : Prop := ∀ {a : Addr} {pn : List (Addr × Obj)} {σ : St} {H : Hp} {s : Shared} {cls : Value} {b : Bool} {Q : Bool → Shared → Prop} {E : Value → Shared → Prop}, Inv (X.suite a pn) [] σ H s →
  PySem.W.Looks (model X.prog X.w) s.heap (typeOf (.ref a)) cls → PySem.W.exmAny X.K cls cs = some b → (∀ h', (∀ q o, s.heap.get? q = some o → h'.get? q = some o) → Q b { s with heap := h' }) →
  wpAny (model X.prog X.w) (X.A.mark (some (.ref a))) (eval t X.env) (fun c s₁ => wpAny (model X.prog X.w) (X.A.mark (some (.ref a))) (excMatches (.ref a) c) Q E s₁) E s
theorem names_ld {X : Cx} {x : Str} {c : Value} {np : Pos} (hc : Names X x c) {a : Addr} {pn : List (Addr × Obj)} {σ : St} {H : Hp} {s : Shared} (S : Inv (X.suite a pn) [] σ H s) {Q : Value → Shared → Prop} {E : Value → Shared → Prop} (q : Q c s) :
    wpAny (model X.prog X.w) (X.A.mark (some (.ref a))) (eval (.Name x np) X.env) Q E s := by
  obtain ⟨hg, hdbg, hm | ⟨hm, hv, hnn⟩⟩ := hc
  · exact ld_glob (X := X.suite a pn) S hg hm q hdbg
  · exact ld_blt (X := X.suite a pn) S hg hm hv q hnn hdbg
theorem clt_one {X : Cx} {x : Str} {c : Value} {np : Pos} (hc : Names X x c) : ClT X (.Name x np) [c] := fun {a pn σ H s cls b Q E} S LT he q =>
  names_ld hc S ((PySem.W.exm_one1 S.kIn LT he).here (q s.heap fun _ _ z => z))
theorem clt_4 {X : Cx} {x1 x2 x3 x4 : Str} {c1 c2 c3 c4 : Value} {p1 p2 p3 p4 tpos : Pos} {kk : Nat} (n1 : Names X x1 c1) (n2 : Names X x2 c2) (n3 : Names X x3 c3) (n4 : Names X x4 c4) :
    ClT X (.Tuple [.Name x1 p1, .Name x2 p2, .Name x3 p3, .Name x4 p4] kk tpos) [c1, c2, c3, c4] := fun {a pn σ H s cls b Q E} S LT he q => by
  refine wpAny_Tuple ?_
  refine wpAny_items_cons (names_ld n1 S ?_)
  refine wpAny_items_cons (names_ld n2 S ?_)
  refine wpAny_items_cons (names_ld n3 S ?_)
  refine wpAny_items_cons (names_ld n4 S ?_)
  refine wpAny_items_nil ⟨by size_fits, ?_⟩
  have kp : ∀ q o, s.heap.get? q = some o → (s.heap.push { cls := .type "tuple", data := .seq [c1, c2, c3, c4].toArray }).get? q = some o := fun _ _ z => Heap.get?_push_of_some _ z
  exact (PySem.W.exm_tup4 (S.kIn.keeps kp) (LT.keeps kp) (Heap.get?_push_size s.heap rfl) he).here (q _ kp)
theorem clt_5 {X : Cx} {x1 x2 x3 x4 x5 : Str} {c1 c2 c3 c4 c5 : Value} {p1 p2 p3 p4 p5 tpos : Pos} {kk : Nat} (n1 : Names X x1 c1) (n2 : Names X x2 c2) (n3 : Names X x3 c3) (n4 : Names X x4 c4) (n5 : Names X x5 c5) :
    ClT X (.Tuple [.Name x1 p1, .Name x2 p2, .Name x3 p3, .Name x4 p4, .Name x5 p5] kk tpos) [c1, c2, c3, c4, c5] := fun {a pn σ H s cls b Q E} S LT he q => by
  refine wpAny_Tuple ?_
  refine wpAny_items_cons (names_ld n1 S ?_)
  refine wpAny_items_cons (names_ld n2 S ?_)
  refine wpAny_items_cons (names_ld n3 S ?_)
  refine wpAny_items_cons (names_ld n4 S ?_)
  refine wpAny_items_cons (names_ld n5 S ?_)
  refine wpAny_items_nil ⟨by size_fits, ?_⟩
  have kp : ∀ q o, s.heap.get? q = some o → (s.heap.push { cls := .type "tuple", data := .seq [c1, c2, c3, c4, c5].toArray }).get? q = some o := fun _ _ z => Heap.get?_push_of_some _ z
  exact (PySem.W.exm_tup5 (S.kIn.keeps kp) (LT.keeps kp) (Heap.get?_push_size s.heap rfl) he).here (q _ kp)
abbrev ClR := List Value × Option Nat × (Addr → Value → Option Addr → TS)
/-- the ends of a suite whose name (slot i) goes at its end -/
def endAs : Option Nat → Ends → Ends
  | none, D => D
  | some i, D => { nx := fun σ' H' => D.nx (σ'.set i none) H', rt := D.rt, bk := fun σ' H' => D.bk (σ'.set i none) H', ct := fun σ' H' => D.ct (σ'.set i none) H' }
def setAs : Option Nat → Addr → St → St
  | none, _, σ => σ
  | some i, a, σ => σ.set i (some (.ref a))
/-- what the clauses wish of an exception of the body, one after the other -/
def wAny (K : PySem.W.Frag) (Wout : WX) (D : Ends) : List ClR → WX
  | [] => Wout
  | (cs, n, ts) :: r => fun cls d σ H => ∃ b, PySem.W.exmAny K cls cs = some b ∧ (b = true → ∀ a, H a = none → ts a cls d (endAs n D) (setAs n a σ) H) ∧ (b = false → wAny K Wout D r cls d σ H)
inductive ClsOk (X : Cx) : List ExceptHandler → List ClR → Prop
  | nil : ClsOk X [] []
  | one {t : Expr} {cs : List Value} {ts : Addr → Value → Option Addr → TS} {b₀ : Stmt} {suite : List Stmt} {pos' : Pos} {hds : List ExceptHandler} {l : List ClR} (hc : ClT X t cs)
      (hsu : ∀ (a : Addr) (oe : Obj) (cls : Value) (d : Option Addr) (pn : List (Addr × Obj)), Zc cls d oe → (∃ vs, oe.data = .fields vs) → PSs (X.suite a ((a, oe) :: pn)) (b₀ :: suite) (ts a cls d)) (r : ClsOk X hds l) :
      ClsOk X (.ExceptHandler (some t) none (b₀ :: suite) pos' :: hds) ((cs, none, ts) :: l)
  | as {t : Expr} {cs : List Value} {n : Str} {i : Nat} {ts : Addr → Value → Option Addr → TS} {b₀ : Stmt} {suite : List Stmt} {pos' : Pos} {hds : List ExceptHandler} {l : List ClR} (hN : X.N.Nodup) (hi : X.N[i]? = some n) (hln : X.env.kindOf n = some .local) (hc : ClT X t cs)
      (hsu : ∀ (a : Addr) (oe : Obj) (cls : Value) (d : Option Addr) (pn : List (Addr × Obj)), Zc cls d oe → (∃ vs, oe.data = .fields vs) → PSs (X.suite a ((a, oe) :: pn)) (b₀ :: suite) (ts a cls d)) (r : ClsOk X hds l) :
      ClsOk X (.ExceptHandler (some t) (some n) (b₀ :: suite) pos' :: hds) ((cs, some i, ts) :: l)
section
variable {X : Cx} {body : List Stmt} {h₀ : ExceptHandler} {hds : List ExceptHandler} {l : List ClR} {pos : Pos} {tb : WX → TS} {Wout : WX}
theorem ps_try_any (hs : X.stack = X.env :: X.outer) (hf : X.env.frame = some X.env.locals) (tk : Takes X Wout)
    (hb : ∀ (W : WX) (pn : List (Addr × Obj)) (xe : Value → Shared → Prop), Takes (X.tr pn xe) W → PassesOwn (model X.prog X.w) X.A X.env xe → PSs (X.tr pn xe) body (tb W))
    (hh : ClsOk X (h₀ :: hds) l) : PS X (.Try body (h₀ :: hds) [] [] pos) (fun D σ H => tb (wAny X.K Wout D l) D σ H) := by
  refine ⟨fun pins s σ H D I h => ?_⟩
  have ok := I.ok
  have hfr : X.A.frames = some (X.env :: X.outer) := by rw [ok.frames, hs]
  refine wpAny_Try_except ?_
  refine wpAny_mono ((hb (wAny X.K Wout D l) (X.pn ++ pins) (fun e s₁ => wpAny (model X.prog X.w) X.A (noteFrame e X.env) (fun _ s₂ => wpAny (model X.prog X.w) X.A (setFlight e none) (fun _ s₃ =>
    wpAny (model X.prog X.w) X.A (handleBy e X.env (h₀ :: hds)) (SP X pins D) X.xe s₃) X.xe s₂) X.xe s₁) (fun u s' xx => ?_) PassesOwn.looking).run [] s σ H D (I.toTry _) h) (fun f s1 hsp => ?_) (fun e s1 he => he)
  · -- the catch
    obtain ⟨a, B, sI, pins', σ', H', cls, d, rfl, J', nb, up, sky, na, os, ag, w⟩ := xx
    have J : Inv X pins σ' H' sI := J'.ofTry ok
    have sky' : Sky B (X.env :: X.outer) a (Zc cls d) X.env.locals s'.heap := by rw [← hs]; exact sky
    show wpAny (model X.prog X.w) X.A (noteFrame (.ref a) X.env) _ _ _
    refine Sky.land Zc.steady hfr hf sky' fun h3 fl3 up3 => ?_
    have notFr : ∀ {h : Heap} {o : Obj} {vs : Array Value}, h.FunFrames B (X.env :: X.outer) → h.get? a = some o → o.data = .fields vs → a ∉ frs (X.env :: X.outer) := fun {h o vs} ff e dd hm => by
      obtain ⟨_, o', e', hnf⟩ := ff.mem hm
      rw [e] at e'; cases e'
      exact hnf _ dd
    have go : ∀ {hds' : List ExceptHandler} {l' : List ClR}, ClsOk X hds' l' → ∀ (h3 : Heap), HandSPX.FlyingZ B (X.env :: X.outer) a (Zc cls d) h3 → s'.heap.UpToSlots h3 → wAny X.K Wout D l' cls d σ' H' →
        wpAny (model X.prog X.w) X.A (handleBy (.ref a) X.env hds') (SP X pins D) X.xe { s' with heap := h3 } := by
      intro hds' l' hk
      induction hk with
      | nil =>
        intro h3 fl3 up3 w
        refine wpAny_handleBy_nil ?_
        have J3 : Inv X pins σ' H' { s' with heap := h3 } := J.landed nb fl3.1 (up.trans up3) os ag
        obtain ⟨k1, k2, k3, oe, vs, T, oT, ts', he, hz, hd, h1, hr⟩ := id fl3
        unfold PySem.passOn
        refine wpAny_bind (wpAny_field he hd h1 ?_)
        rw [if_neg (show ¬ ((Value.ref T == Value.none) = true) from by simp)]
        have fin : wpAny (model X.prog X.w) X.A (setFlight (.ref a) X.env.frame) (fun _ s4 => wpAny (model X.prog X.w) X.A (throw (.ref a) : Sem Flow) (SP X pins D) X.xe s4) X.xe { s' with heap := h3 } := by
          rw [hf]
          refine HandSPX.setFlight_upZ fl3 fun h4 hh4 up4 => wpAny_throw (tk _ _ ?_)
          exact ⟨a, B, sI, pins, σ', H', cls, d, rfl, J, nb, (up.trans up3).trans up4, .inr (.inr (by rw [hs]; exact hh4)), na, os, ag, w⟩
        first
          | exact wpAny_bind (wpAny_pure (wpAny_bind fin))
          | exact wpAny_bind fin
      | @one t cs ts b₀ suite pos' hds2 l2 hc hsu r ih =>
        intro h3 fl3 up3 w
        obtain ⟨b, hb1, hyes, hno⟩ := w
        have J3 : Inv X pins σ' H' { s' with heap := h3 } := J.landed nb fl3.1 (up.trans up3) os ag
        obtain ⟨oe3, vs3, he3, hz3, hd3⟩ := fl3.there
        have nfr := notFr fl3.2.2.1 he3 hd3
        have nL : a ≠ X.env.locals := fun z => nfr (List.mem_filterMap.mpr ⟨X.env, List.mem_cons_self, by rw [hf, z]⟩)
        have nF : a ∉ X.fs := fun hm => by
          obtain ⟨e, he, q⟩ := List.mem_filterMap.mp hm
          exact nfr (List.mem_filterMap.mpr ⟨e, List.mem_cons_of_mem _ he, q⟩)
        have S3 := J3.suite he3 hd3 na nL nF
        refine wpAny_handleBy_cons (codeAny_handlers_test ?_) (by intro q; cases q)
        have LT : PySem.W.Looks (model X.prog X.w) h3 (typeOf (.ref a)) cls := fun A Q E s k q => wpAny_typeOf_ref (k _ _ he3) (by rw [hz3.1]; exact q)
        refine hc S3 LT hb1 fun h4 k4 => ?_
        have fl4 := flyingZ_keeps fl3 k4
        have up34 : s'.heap.UpToSlots h4 := up3.trans (Heap.UpToSlots.of_keeps k4)
        cases b with
        | true =>
          refine codeAny_handlers_suite ?_
          refine HandSPX.lands_againZ fl4 fun h5 fl5 up5 => ?_
          have J5 : Inv X pins σ' H' { s' with heap := h5 } := J.landed nb fl5.1 ((up.trans up34).trans up5) os ag
          obtain ⟨oe5, vs5, he5, hz5, hd5⟩ := fl5.there
          have S5 := J5.suite he5 hd5 na nL nF
          refine wpAny_mono ((hsu a oe5 cls d (X.pn ++ pins) hz5 ⟨_, hd5⟩).run [] _ _ H' _ S5 (hyes rfl a na)) (fun f s6 hsp => ?_) (fun _ _ z => False.elim z)
          cases f with
          | next =>
            obtain ⟨σ6, H6, S6, q6⟩ := hsp
            exact ⟨_, _, S6.unsuite ok, q6⟩
          | brk =>
            obtain ⟨σ6, H6, S6, q6⟩ := hsp
            exact ⟨_, _, S6.unsuite ok, q6⟩
          | cont =>
            obtain ⟨σ6, H6, S6, q6⟩ := hsp
            exact ⟨_, _, S6.unsuite ok, q6⟩
          | ret u =>
            obtain ⟨v6, σ6, H6, S6, r6, q6⟩ := hsp
            exact ⟨_, _, _, S6.unsuite ok, r6, q6⟩
        | false =>
          show wpAny _ X.A (handleBy (.ref a) X.env hds2) _ _ _
          exact ih h4 fl4 up34 (hno rfl)
      | @as t cs n i ts b₀ suite pos' hds2 l2 hN hi hln hc hsu r ih =>
        intro h3 fl3 up3 w
        obtain ⟨b, hb1, hyes, hno⟩ := w
        have hloc : Loc X.env.scope n := .inl hln
        have J3 : Inv X pins σ' H' { s' with heap := h3 } := J.landed nb fl3.1 (up.trans up3) os ag
        obtain ⟨oe3, vs3, he3, hz3, hd3⟩ := fl3.there
        have nfr := notFr fl3.2.2.1 he3 hd3
        have nL : a ≠ X.env.locals := fun z => nfr (List.mem_filterMap.mpr ⟨X.env, List.mem_cons_self, by rw [hf, z]⟩)
        have nF : a ∉ X.fs := fun hm => by
          obtain ⟨e, he, q⟩ := List.mem_filterMap.mp hm
          exact nfr (List.mem_filterMap.mpr ⟨e, List.mem_cons_of_mem _ he, q⟩)
        have S3 := J3.suite he3 hd3 na nL nF
        refine wpAny_handleBy_cons (codeAny_handlers_test ?_) (by intro q; cases q)
        have LT : PySem.W.Looks (model X.prog X.w) h3 (typeOf (.ref a)) cls := fun A Q E s k q => wpAny_typeOf_ref (k _ _ he3) (by rw [hz3.1]; exact q)
        refine hc S3 LT hb1 fun h4 k4 => ?_
        have fl4 := flyingZ_keeps fl3 k4
        have up34 : s'.heap.UpToSlots h4 := up3.trans (Heap.UpToSlots.of_keeps k4)
        cases b with
        | true =>
          refine codeAny_handlers_suite_as ?_
          refine HandSPX.lands_againZ fl4 fun h5 fl5 up5 => ?_
          have J5 : Inv X pins σ' H' { s' with heap := h5 } := J.landed nb fl5.1 ((up.trans up34).trans up5) os ag
          obtain ⟨oe5, vs5, he5, hz5, hd5⟩ := fl5.there
          have S5 := J5.suite he5 hd5 na nL nF
          refine store_ok (X := X.suite a ((a, oe5) :: (X.pn ++ pins))) (v := .ref a) S5 hN hi hloc rfl (fun s6 S6 => ?_) (.inr hln)
          refine wpAny_mono ((hsu a oe5 cls d (X.pn ++ pins) hz5 ⟨_, hd5⟩).run [] s6 _ H' _ S6 (hyes rfl a na)) (fun f s7 hsp => ?_) (fun _ _ z => False.elim z)
          have end_ : ∀ {σ6 : St} {H6 : Hp} {Q : Shared → Prop}, Inv (X.suite a ((a, oe5) :: (X.pn ++ pins))) [] σ6 H6 s7 → (∀ s8, Inv X pins (σ6.set i none) H6 s8 → Q s8) →
              wpAny (model X.prog X.w) X.A (do bindName X.env n .none; unbindBehindTheSuite X.env n pos') (fun _ s8 => Q s8) X.xe s7 := fun {σ6 H6 Q} S6 hq => gone_ok (S6.unsuite ok) hN hi hln hq
          cases f with
          | next =>
            obtain ⟨σ6, H6, S6, q6⟩ := hsp
            exact end_ S6 fun s7 J7 => ⟨_, _, J7, q6⟩
          | brk =>
            obtain ⟨σ6, H6, S6, q6⟩ := hsp
            exact end_ S6 fun s7 J7 => ⟨_, _, J7, q6⟩
          | cont =>
            obtain ⟨σ6, H6, S6, q6⟩ := hsp
            exact end_ S6 fun s7 J7 => ⟨_, _, J7, q6⟩
          | ret u =>
            obtain ⟨v6, σ6, H6, S6, r6, q6⟩ := hsp
            exact end_ S6 fun s7 J7 => ⟨_, _, _, J7, r6, q6⟩
        | false =>
          show wpAny _ X.A (handleBy (.ref a) X.env hds2) _ _ _
          exact ih h4 fl4 up34 (hno rfl)
    exact go hh h3 fl3 up3 w
  · cases f with
    | next =>
      obtain ⟨σ', H', J', q⟩ := hsp
      exact wpAny_execs_nil ⟨σ', H', J'.ofTry ok, q⟩
    | brk =>
      obtain ⟨σ', H', J', q⟩ := hsp
      exact ⟨σ', H', J'.ofTry ok, q⟩
    | cont =>
      obtain ⟨σ', H', J', q⟩ := hsp
      exact ⟨σ', H', J'.ofTry ok, q⟩
    | ret u =>
      obtain ⟨v, σ', H', J', r, q⟩ := hsp
      exact ⟨v, σ', H', J'.ofTry ok, r, q⟩
end
/-- isinstance(e, c), e the exception that the suite holds: its class and state told by the clause -/
def rIsX (K : PySem.W.Frag) (cls : Value) (d : Option Addr) (a : Addr) : List V → Hp → VK → Prop := fun xs H Q => ∃ D, cls = .ref D ∧ d = none ∧ ExcC K D ∧ rIsE K D a xs H Q
theorem call_isX {X : Cx} {a : Addr} {cls : Value} {d : Option Addr} {oe : Obj} {pn : List (Addr × Obj)} (hz : Zc cls d oe) (hf : ∃ vs, oe.data = .fields vs) : CallR (X.suite a ((a, oe) :: pn)) (.builtin "isinstance") (rIsX X.K cls d a) := by
  intro pins s σ H xs us Q I r h
  obtain ⟨D, rfl, rfl, C, h⟩ := h
  exact call_isE C hz hf pins s σ H xs us Q I r h
/-! ### calls of methods, new instances, where the exceptions are taken by a try -/
section
variable {X : Cx} {CX : CXT} {k : Nat} {f C : Addr} {fd : FuncData} {ps : List Str} {sp : Sp} {E : St → XK} {x m : Str} {p pos apos : Pos} {e o : Expr} {es : List Expr} {ta : TE} {t : TA}
def tMethW (C : Addr) (m : Str) (sp : Sp) (E : St → XK) (ta : TE) (t : TA) : TE := fun σ H Q => ta σ H fun x H1 => ∃ a dx fs, x = .ref a ∧ H1 a = some (.ins C dx fs) ∧ fs.lookup m = none ∧ t σ H1 fun vs H2 => sp (x :: vs) H2 Q (E σ)
theorem pe_methW {pl : Sem Bool} (he : PE X o ta) (c : Cls X.K C) (hm : Meth X.K C m f) (F : FnOk X.prog X.w X.K X.mg X.base CX k f fd ps sp) (hr : Room k X.A) (hb : Binds X.K fd ps []) (hx : ∀ σ, PassesAt CX X σ (E σ)) (ha : PA X (e :: es) t)
    (hst : starEach (e :: es) X.env = (false, eval e X.env) :: starEach es X.env := by rfl) (hpl : (backTo pos (starEach es X.env)).any (·.1) = false := by rfl)
    (ht : eval (.Call (.Attribute o m apos) (e :: es) [] pos) X.env = (do
      let ov ← eval o X.env
      standAt apos.atName
      let (f, first) ← holding [ov] (getMethod ov m pl)
      callWith pos f first (backTo pos (starEach (e :: es) X.env)) (backToKw pos (keywordEach [] X.env))) := by rfl) :
    PE X (.Call (.Attribute o m apos) (e :: es) [] pos) (tMethW C m sp E ta t) := by
  refine ⟨fun pins s σ H Q I h => ?_⟩
  refine PySem.W.methodCall_KW (pl := pl) (thn (he.run pins s σ H _ I h) fun u s1 ⟨x, H1, I1, rx, a, dx, fs, ex, ea, l, q⟩ => ?_) ht
  subst ex
  obtain rfl : u = Value.ref a := rx
  refine getmeth_ok I1 ea c hm l ?_
  refine PySem.W.callWith_K (first := [.ref a]) (h₀ := X.base) I.ok.mod.kin hm.kp (thn (ha.run pos pins s1 σ H1 _ I1 q) fun us s2 ⟨vs, H2, I2, r, q2⟩ => ⟨I2.kIn, ?_⟩) hst hpl
  exact run_fnS (us := .ref a :: us) (vs := .ref a :: vs) F hr hb (hx σ) I2 (.cons rfl r) q2
theorem pe_methW0 {pl : Sem Bool} (he : PE X o ta) (c : Cls X.K C) (hm : Meth X.K C m f) (F : FnOk X.prog X.w X.K X.mg X.base CX k f fd ps sp) (hr : Room k X.A) (hb : Binds X.K fd ps []) (hx : ∀ σ, PassesAt CX X σ (E σ))
    (ht : eval (.Call (.Attribute o m apos) [] [] pos) X.env = (do
      let ov ← eval o X.env
      standAt apos.atName
      let (f, first) ← holding [ov] (getMethod ov m pl)
      callWith pos f first (backTo pos (starEach [] X.env)) (backToKw pos (keywordEach [] X.env))) := by rfl) :
    PE X (.Call (.Attribute o m apos) [] [] pos) (tMethW C m sp E ta tNil) := by
  refine ⟨fun pins s σ H Q I h => ?_⟩
  refine PySem.W.methodCall_KW (pl := pl) (thn (he.run pins s σ H _ I h) fun u s1 ⟨x, H1, I1, rx, a, dx, fs, ex, ea, l, q⟩ => ?_) ht
  subst ex
  obtain rfl : u = Value.ref a := rx
  refine getmeth_ok I1 ea c hm l ?_
  exact PySem.W.callWith_K0 (first := [.ref a]) I1.kIn hm.kp (run_fnS (us := [.ref a]) (vs := [.ref a]) F hr hb (hx σ) I1 (.cons rfl .nil) q)
theorem run_makeW {pins : List (Addr × Obj)} {σ : St} {H : Hp} {s : Shared} {Q : VK} {us : List Value} {vs : List V} (M : Mk X.K C f) (F : FnOk X.prog X.w X.K X.mg X.base CX k f fd ps sp) (hr : Room (k + 1) X.A) (hb : Binds X.K fd ps [])
    (hx : PassesAt CX X σ (E σ)) (I : Inv X pins σ H s) (r : Vals vs us)
    (h : ∀ x dx, H x = none → H dx = none → dx ≠ x → sp (.ref x :: vs) (upd (upd H dx (.own x)) x (.ins C dx [])) (fun v H2 => v = .non ∧ Q (.ref x) H2) (E σ)) :
    wpAny (model X.prog X.w) X.A (call (.ref C) us) (EP X pins σ Q) X.xe s := by
  have hq := h (s.heap.objs.size + 1) s.heap.objs.size (I.hok.fresh (Nat.le_succ _)) (I.hok.fresh (Nat.le_refl _)) (Nat.ne_of_lt (Nat.lt_succ_self _))
  have I2 := Inv.made (C := C) I
  have r2 : Vals (V.ref (s.heap.objs.size + 1) :: vs) (Value.ref (s.heap.objs.size + 1) :: us) := .cons rfl r
  have hl : (Value.ref (s.heap.objs.size + 1) :: us).length = ps.length := by
    have e := r2.length
    rw [F.len _ _ _ _ hq] at e
    exact e.symm
  have b := hb _ (Value.ref (s.heap.objs.size + 1) :: us) I2.kIn (by rw [List.append_nil]; exact hl)
  rw [List.append_nil] at b
  refine wpAny_call (make_map (f := f) I.kIn M.makes M.init (beq_iff_eq.mp M.fn) (codeAny_mono (F.run _ X.stack _ _ ⟨Value.ref (s.heap.objs.size + 1) :: us, []⟩ (Value.ref (s.heap.objs.size + 1) :: us) _ _ (E σ) (hr.make C us [])
    (I2.env0.make C us []) b r2 hq) fun r s' hq' => ?_))
  cases r with
  | error e => exact hx pins _ _ e s' I2 hq'
  | ok fl =>
    cases fl with
    | ret u =>
      obtain ⟨v, H', I3, rv, ev, q3⟩ := I2.after hq'
      subst ev
      exact ⟨rv, ⟨V.ref (s.heap.objs.size + 1), H', I3, rfl, q3⟩⟩
    | next => exact False.elim hq'
    | brk => exact False.elim hq'
    | cont => exact False.elim hq'
def tMakeW (C : Addr) (sp : Sp) (E : St → XK) (t : TA) : TE := fun σ H Q => t σ H fun vs H1 => ∀ x dx, H1 x = none → H1 dx = none → dx ≠ x →
  sp (.ref x :: vs) (upd (upd H1 dx (.own x)) x (.ins C dx [])) (fun v H2 => v = .non ∧ Q (.ref x) H2) (E σ)
theorem pe_makeW (M : Mk X.K C f) (F : FnOk X.prog X.w X.K X.mg X.base CX k f fd ps sp) (hr : Room (k + 1) X.A) (hg : Gl X x) (hm : X.mg x = some (.ref C)) (hb : Binds X.K fd ps []) (hx : ∀ σ, PassesAt CX X σ (E σ))
    (ha : PA X (e :: es) t) (hdb : (x == ("__debug__" : Str)) = false := by decide) (he : starEach (e :: es) X.env = (false, eval e X.env) :: starEach es X.env := by rfl) (hpl : (backTo pos (starEach es X.env)).any (·.1) = false := by rfl) :
    PE X (.Call (.Name x p) (e :: es) [] pos) (tMakeW C sp E t) := by
  refine ⟨fun pins s σ H Q I h => ?_⟩
  refine wpAny_Call_Name_kw (ld_glob I hg hm ?_ hdb)
  refine PySem.W.callWith_K (h₀ := X.base) I.ok.mod.kin M.kp (thn (ha.run pos pins s σ H _ I h) fun us s1 ⟨vs, H1, I1, r, q⟩ => ⟨I1.kIn, ?_⟩) he hpl
  exact run_makeW M F hr hb (hx σ) I1 r q
end
end L2
namespace Pk
open PySem PySem.Spec L2
/-- a try none of whose exceptions goes past its clauses -/
def tTry (K : PySem.W.Frag) (l : List ClR) (tb : WX → TS) : TS := fun D σ H => tb (wAny K (fun _ _ _ _ => False) D l) D σ H
section
variable {K : PySem.W.Frag} {l : List ClR} {tb : WX → TS} {nx : St → Hp → Prop} {rt : VK} {bk ct : St → Hp → Prop} {σ : St} {H : Hp} {t : TA} {ta : TE} {Q : VK}
theorem r_try (h : tb (wAny K (fun _ _ _ _ => False) ⟨nx, rt, bk, ct⟩ l) ⟨nx, rt, bk, ct⟩ σ H) : tTry K l tb ⟨nx, rt, bk, ct⟩ σ H := h
theorem r_callS {sp : Sp} {E : St → XK} (h : t σ H fun vs H1 => sp vs H1 Q (E σ)) : tCallS sp E t σ H Q := h
theorem r_methW {C : Addr} {m : Str} {sp : Sp} {E : St → XK} (h : ta σ H fun x H1 => ∃ a dx fs, x = .ref a ∧ H1 a = some (.ins C dx fs) ∧ fs.lookup m = none ∧ t σ H1 fun vs H2 => sp (x :: vs) H2 Q (E σ)) : tMethW C m sp E ta t σ H Q := h
theorem w_yes {cs : List Value} {n : Option Nat} {ts : Addr → Value → Option Addr → TS} {r : List ClR} {Wout : WX} {D : Ends} {cls : Value} {d : Option Addr} (e : PySem.W.exmAny K cls cs = some true)
    (h : ∀ a, H a = none → ts a cls d (endAs n D) (setAs n a σ) H) : wAny K Wout D ((cs, n, ts) :: r) cls d σ H := ⟨true, e, fun _ => h, fun z => by cases z⟩
theorem w_no {cs : List Value} {n : Option Nat} {ts : Addr → Value → Option Addr → TS} {r : List ClR} {Wout : WX} {D : Ends} {cls : Value} {d : Option Addr} (e : PySem.W.exmAny K cls cs = some false)
    (h : wAny K Wout D r cls d σ H) : wAny K Wout D ((cs, n, ts) :: r) cls d σ H := ⟨false, e, (fun z => by cases z), fun _ => h⟩
/-- what isinstance asks of an own class of errors, as a test -/
def excB (K : PySem.W.Frag) (D : Addr) : Bool := PySem.W.findIn K (.ref D) "__getattribute__" == some (some (.builtin "BaseException.__getattribute__")) && PySem.W.findIn K (.ref D) "__getattr__" == some none && PySem.W.subIn K (.ref D) (.type "BaseException") == some true
  && PySem.W.hasDictIn K D && PySem.W.findIn K (.ref D) "__class__" == some (some (.builtin "object.__class__")) && PySem.W.specialIn K (.builtin "object.__class__") "__get__" == some (some (.builtin "getset_descriptor.__get__"))
  && PySem.W.takesIn K (.builtin "object.__class__") == some true && PySem.W.mroIn K D (.type "object") == some true
theorem excB_ok {K : PySem.W.Frag} {D : Addr} (h : excB K D = true) : ExcC K D := by
  unfold excB at h
  simp only [Bool.and_eq_true, beq_iff_eq] at h
  obtain ⟨⟨⟨⟨⟨⟨⟨h1, h2⟩, h3⟩, h4⟩, h5⟩, h6⟩, h7⟩, h8⟩ := h
  exact ⟨h1, h2, h3, h4, h5, h6, h7, h8⟩
theorem r_isX {D a : Addr} (C : ExcC K D) (e : PySem.W.kitOne K (.ref D) (.type "ValueError") = some true) (h : Q (.bl true) H) : rIsX K (.ref D) none a [.ref a, .ty "ValueError"] H Q :=
  ⟨D, rfl, rfl, C, .ty "ValueError", .type "ValueError", true, rfl, fun u r => r, e, h⟩
end
end Pk
open PySem PySem.Spec L2 Pk
open C8 (tCut pss_cut)

local macro_rules | `(tactic| walk_at "hp") => `(tactic| (first
  | assumption
  | (exact SqL.of (by assumption)) | (exact SqT.of (by assumption)) | (exact Rd.of (by assumption))
  | (exact sm_of (by assumption) (by assumption))
  | ((with_reducible apply sm_of); assumption; walk_at "hp")
  | ((with_reducible apply Same.seq); assumption; walk_at "hp")
  | ((with_reducible apply sm_tup); assumption; walk_at "hp")
  | ((with_reducible apply sm_rd); assumption; walk_at "hp"))) 
local macro_rules | `(tactic| walk_at "hq") => `(tactic| (first | walk_at "hp" | (solve_by_elim (maxDepth := 8) [Same.seq, sm_of, sm_tup, sm_rd, SqL.of, SqT.of, Rd.of])))
local macro_rules | `(tactic| walk_at "rv") => `(tactic| (with_reducible (first
  | refine r_v0 ?_ | refine r_v1 ?_ | refine r_v2 ?_ | refine r_v3 ?_ | refine r_v4 ?_ | refine r_v5 ?_ | refine r_v6 ?_ | refine r_v7 ?_ | refine r_v8 ?_ | refine r_v9 ?_ | refine r_v10 ?_ | refine r_v11 ?_ | refine r_v12 ?_ | refine r_v13 ?_ | refine r_n0 ?_ | refine r_n1 ?_ | refine r_n2 ?_ | refine r_n3 ?_ | refine r_n4 ?_ | refine r_n5 ?_ | refine r_n6 ?_ | refine r_n7 ?_ | refine r_n8 ?_ | refine r_n9 ?_ | refine r_n10 ?_ | refine r_n11 ?_ | refine r_n12 ?_ | refine r_n13 ?_)))
local macro_rules | `(tactic| walk_at "x1") => `(tactic| fail)
local macro_rules | `(tactic| walk_at "r1") => `(tactic| (first
  | (with_reducible (first | refine r_seq ?_ | refine r_asg ?_ | refine r_ret ?_ | refine r_ifS ?_ | refine r_next ?_ | refine r_drop ?_ | refine r_brk ?_ | refine r_raise ?_ | refine r_test ?_ | refine r_B ?_ | refine r_and ?_ | refine r_or ?_ | refine r_not ?_ | refine r_isN ?_ | refine r_notN ?_ | refine r_c ?_ | refine r_op ?_ | refine r_un ?_ | refine r_cons ?_ | refine r_nil ?_ | refine r_call ?_ | refine r_cb ?_ | refine r_andV ?_ | refine r_orV ?_ | refine r_notV ?_ | refine r_ifE ?_ | refine r_sl ?_ | refine r_noPart ?_ | refine r_part ?_ | refine r_tup ?_ | refine r_lst ?_ | refine r_bm ?_ | refine r_bm0 ?_ | refine r_dget ?_ | refine r_din ?_ | refine r_dnotin ?_ | refine r_dput ?_ | refine r_fld ?_ | refine r_meth ?_ | refine r_yes ?_ | refine r_lc ?_ | refine r_for ?_ | refine r_rng1 ?_ | refine r_rng2 ?_ | refine r_iList ?_ | refine r_iKeys ?_ | refine r_dnew ?_ | refine r_try ?_ | refine r_callS ?_ | refine r_methW ?_))
  | walk_at "rv"
  | (with_reducible (first | refine r_add ?_ | refine r_sub ?_ | refine r_neg ?_ | refine r_lt ?_ | refine r_le ?_ | refine r_gt ?_ | refine r_ge ?_ | refine r_eqI ?_ | refine r_eqS ?_ | refine r_neI ?_ | refine r_neS ?_ | refine r_max2 ?_ | refine r_min2 ?_ | refine r_blP ?_ | refine r_int ?_ | refine r_tyS ?_))
  | ((with_reducible (first | refine r_div ?_ ?_ | refine r_mod ?_ ?_ | refine r_pow ?_ ?_ | refine r_mulL ?_ ?_ | refine r_mulR ?_ ?_)); first | decide | omega)
  | ((with_reducible (first | refine r_slS ?_ ?_ | refine r_lenS ?_ ?_ | refine r_addS ?_ ?_)); (first | (exact sz (by omega)) | (exact sz (by simp only [List.length_append]; omega))))
  | ((with_reducible (first | refine r_mkT ?_ ?_ | refine r_mkL ?_ ?_)); exact sz (by simp))
  | (with_reducible (first | refine iteT ?_ | refine iteF ?_ | refine r_nT ?_ | refine r_nF ?_))
  | ((with_reducible refine r_rng1E ?_ ?_); omega)
  | ((with_reducible refine r_rng2E ?_ ?_); omega)
  | ((with_reducible apply r_iListE); (walk_at "hp"))
  | ((with_reducible apply r_tyL); (walk_at "hp"))
  | ((with_reducible apply r_ixT); (walk_at "hp"); exact rfl)
  | ((with_reducible apply r_ixL); (walk_at "hp"); exact rfl)
  | (with_reducible (first | refine r_is_int_int ?_ | refine r_is_int_bool ?_ | refine r_is_int_str ?_ | refine r_is_int_tuple ?_ | refine r_is_int_list ?_ | refine r_is_int_dict ?_ | refine r_is_str_int ?_ | refine r_is_str_bool ?_ | refine r_is_str_str ?_ | refine r_is_str_tuple ?_ | refine r_is_str_list ?_ | refine r_is_str_dict ?_ | refine r_is_bl_int ?_ | refine r_is_bl_bool ?_ | refine r_is_bl_str ?_ | refine r_is_bl_tuple ?_ | refine r_is_bl_list ?_ | refine r_is_bl_dict ?_ | refine r_is_non_int ?_ | refine r_is_non_bool ?_ | refine r_is_non_str ?_ | refine r_is_non_tuple ?_ | refine r_is_non_list ?_ | refine r_is_non_dict ?_))
  | ((with_reducible apply r_is_lst_int); (walk_at "hp"))
  | ((with_reducible apply r_is_lst_str); (walk_at "hp"))
  | ((with_reducible apply r_is_lst_tuple); (walk_at "hp"))
  | ((with_reducible apply r_is_lst_list); (walk_at "hp"))
  | ((with_reducible apply r_is_lst_dict); (walk_at "hp"))
  | ((with_reducible apply r_is_tup_int); (walk_at "hp"))
  | ((with_reducible apply r_is_tup_str); (walk_at "hp"))
  | ((with_reducible apply r_is_tup_tuple); (walk_at "hp"))
  | ((with_reducible apply r_is_tup_list); (walk_at "hp"))
  | ((with_reducible apply r_is_tup_dict); (walk_at "hp"))
  | ((with_reducible apply r_is_dK_int); (walk_at "hp"))
  | ((with_reducible apply r_is_dK_str); (walk_at "hp"))
  | ((with_reducible apply r_is_dK_tuple); (walk_at "hp"))
  | ((with_reducible apply r_is_dK_list); (walk_at "hp"))
  | ((with_reducible apply r_is_dK_dict); (walk_at "hp"))
  | ((with_reducible apply r_lenL); (walk_at "hp"))
  | ((with_reducible apply r_lenT); (walk_at "hp"))
  | ((with_reducible apply r_lenD); (walk_at "hp"))
  | walk_at "x1"
  ))
local macro_rules | `(tactic| walk_at "rd") => `(tactic| (repeat' (walk_at "r1")))
namespace Pk
/-- what the classes of errors must say -/
structure Okk (A : Ad) : Prop where
  no : PySem.W.exmAny A.K (.ref A.cNoFit) [.ref A.cBadBound, .ref A.cBadRows, .ref A.cInRing, .ref A.cNoVersion, .ref A.cTooFar] = some false
  pe : PySem.W.exmAny A.K (.ref A.cNoFit) [.ref A.cPackError] = some true
  nf : PySem.W.exmAny A.K (.ref A.cNoFit) [.ref A.cNoFit] = some true
  ve : PySem.W.kitOne A.K (.ref A.cNoFit) (.type "ValueError") = some true
  x : ExcC A.K A.cNoFit
def okB (A : Ad) : Bool := PySem.W.exmAny A.K (.ref A.cNoFit) [.ref A.cBadBound, .ref A.cBadRows, .ref A.cInRing, .ref A.cNoVersion, .ref A.cTooFar] == some false && PySem.W.exmAny A.K (.ref A.cNoFit) [.ref A.cPackError] == some true
  && PySem.W.exmAny A.K (.ref A.cNoFit) [.ref A.cNoFit] == some true && PySem.W.kitOne A.K (.ref A.cNoFit) (.type "ValueError") == some true && excB A.K A.cNoFit
theorem okB_ok {A : Ad} (h : okB A = true) : Okk A := by
  unfold okB at h
  simp only [Bool.and_eq_true, beq_iff_eq] at h
  obtain ⟨⟨⟨⟨h1, h2⟩, h3⟩, h4⟩, h5⟩ := h
  exact ⟨h1, h2, h3, h4, excB_ok h5⟩
def sp_done (A : Ad) : Sp := fun vs H Q E => ∃ (z gone come : List Nat) (at_ : Int) (t : Addr), vs = [.str (S z), .ref t] ∧ H t = some (.tup [.int at_, .str (S gone), .str (S come)]) ∧
  z.length ≤ 1000000 ∧ gone.length ≤ 1000000 ∧ come.length ≤ 1000000 ∧ (Fits z at_ gone → Q (.str (S (doneL z at_ gone come))) H) ∧ (¬ Fits z at_ gone → E (.ref A.cNoFit) none H)
def t_done (A : Ad) (E : XK) : TS := tSeq (tAsg (tOp (rIx A.K) (tVar 1) (tC (.int 0))) (gName 2)) (tSeq (tAsg (tOp rAdd3 (tVar 2) (tCB (rLenG A.K) (tCons (tOp (rIx A.K) (tVar 1) (tC (.int 1))) (tNil)))) (gName 3)) (tSeq (tIfS (tOr (tTest (tOp (rLt) (tVar 2) (tC (.int 0)))) (tOr (tTest (tOp (rGt) (tVar 3) (tCB (rLenG A.K) (tCons (tVar 0) (tNil))))) (tTest (tOp (rNeG A.K) (tSl (rSl2 A.K) (tVar 0) (tPart (tVar 2)) (tPart (tVar 3))) (tOp (rIx A.K) (tVar 1) (tC (.int 1))))))) (tRaise A.cNoFit E) (tNext)) (tRet (tOp rAdd3 (tOp rAdd3 (tSl (rSl2 A.K) (tVar 0) (tNoPart) (tPart (tVar 2))) (tOp (rIx A.K) (tVar 1) (tC (.int 2)))) (tSl (rSl2 A.K) (tVar 0) (tPart (tVar 3)) (tNoPart))))))
theorem p_done (A : Ad) {vs : List V} {H : Hp} {Q : VK} {E : XK} (h : sp_done A vs H Q E) : t_done A E { nx := fun _ H2 => Q .non H2, rt := Q } (start ["text", "change", "at", "end"] vs) H := by
  obtain ⟨z, gone, come, at_, t, rfl, hT, l1, l2, l3, h1, h2⟩ := h
  change t_done A E _ [_, _, none, none] _
  unfold t_done
  walk_at "rd"
  refine r_dec (fun c => ?_) (fun c => ?_)
  · walk_at "rd"
    exact h2 fun f => absurd f.1 (by omega)
  walk_at "rd"
  refine r_dec (fun d => ?_) (fun d => ?_)
  · walk_at "rd"
    exact h2 fun f => absurd f.2.1 (by omega)
  walk_at "rd"
  refine r_ndec (fun e => ?_) (fun e => ?_)
  · exact h2 fun f => absurd f.2.2 e
  walk_at "rd"
  have q1 := cutL_len z none (some at_)
  have q2 := cutL_len z (some (at_ + gone.length)) none
  walk_at "rd"
  exact h1 ⟨by omega, by omega, e⟩
def sp_l_cell_at (A : Ad) : Sp := fun vs H Q E => ∃ (a : Addr) (ns : List Int) (k : Int), vs = [.ref a, .int k] ∧ 0 ≤ k ∧ SqL A.K H a (ns.map V.int) ∧ ns.length ≤ 1000 ∧ Q (.int (cellAt ns k)) H
theorem u_cell_at {A : Ad} {a : Addr} {ns : List Int} {k : Int} {H : Hp} {Q : VK} {E : XK} (hk : 0 ≤ k) (hS : SqL A.K H a (ns.map V.int)) (hl : ns.length ≤ 63) (h : Q (.int (cellAt ns k)) H) : sp_l_cell_at A [.ref a, .int k] H Q E :=
  ⟨a, ns, k, rfl, hk, hS, by omega, h⟩
local macro_rules | `(tactic| walk_at "x1") => `(tactic| ((with_reducible apply u_cell_at); (first | decide | omega); (walk_at "hp"); assumption))
def t_l_cell_at (A : Ad) (E : XK) : TS := tSeq (tIfS (tTest (tOp (rLt) (tVar 1) (tCB (rLenG A.K) (tCons (tVar 0) (tNil))))) (tRet (tOp (rIx A.K) (tVar 0) (tVar 1))) (tNext)) (tRet (tC (.int 0)))
theorem p_l_cell_at (A : Ad) {vs : List V} {H : Hp} {Q : VK} {E : XK} (h : sp_l_cell_at A vs H Q E) : t_l_cell_at A E { nx := fun _ H2 => Q .non H2, rt := Q } (start ["_law_script", "_law_k"] vs) H := by
  obtain ⟨a, ns, k, rfl, hk, hS, hl, h1⟩ := h
  change t_l_cell_at A E _ [_, _] _
  unfold t_l_cell_at
  walk_at "rd"
  rw [List.length_map]
  refine r_dec (fun c => ?_) (fun c => ?_)
  · walk_at "rd"
    obtain ⟨j, rfl⟩ : ∃ j : Nat, k = j := ⟨k.toNat, by omega⟩
    have hj : j < ns.length := by omega
    refine r_ixL hS (v := .int (cellAt ns j)) (atI_nat ?_) h1
    rw [List.getElem?_map, List.getElem?_eq_getElem hj]
    unfold cellAt
    simp [List.getD, hj]
  · walk_at "rd"
    have e : cellAt ns k = 0 := by
      unfold cellAt
      simp [List.getD, List.getElem?_eq_none (show ns.length ≤ k.toNat by omega)]
    rw [e] at h1
    exact h1
def sp_l_sign_by (A : Ad) : Sp := fun vs H Q E => ∃ i, vs = [.int i] ∧ ∀ x, x < 1114112 → Q (.str (S [x])) H
theorem u_sign_by {A : Ad} {i : Int} {H : Hp} {Q : VK} {E : XK} (h : ∀ x, x < 1114112 → Q (.str (S [x])) H) : sp_l_sign_by A [.int i] H Q E := ⟨i, rfl, h⟩
def t_l_sign_by (A : Ad) (E : XK) : TS := tSeq (tAsg (tC (.str " !\"#$&'()*+,-./0123456789:;<=>?@ABCDEFGHIJKLMNOPQRSTUVWXYZ[\\]^_`")) (gName 1)) (tSeq (tAsg (tOp rAdd3 (tVar 1) (tC (.str "abcdefghijklmnopqrstuvwxyz{|}~\n\t"))) (gName 1)) (tRet (tOp (rIx A.K) (tVar 1) (tOp rMod (tVar 0) (tC (.int 96))))))
theorem p_l_sign_by (A : Ad) {vs : List V} {H : Hp} {Q : VK} {E : XK} (h : sp_l_sign_by A vs H Q E) : t_l_sign_by A E { nx := fun _ H2 => Q .non H2, rt := Q } (start ["_law_cell", "_law_some"] vs) H := by
  obtain ⟨i, rfl, h1⟩ := h
  change t_l_sign_by A E _ [_, none] _
  unfold t_l_sign_by
  obtain ⟨a, ea, la, oa⟩ := lit " !\"#$&'()*+,-./0123456789:;<=>?@ABCDEFGHIJKLMNOPQRSTUVWXYZ[\\]^_`" 64 (by decide +kernel) (by decide +kernel)
  obtain ⟨b, eb, lb, ob⟩ := lit "abcdefghijklmnopqrstuvwxyz{|}~\n\t" 32 (by decide +kernel) (by decide +kernel)
  rw [ea, eb]
  walk_at "rd"
  obtain ⟨j, e⟩ : ∃ j : Nat, i % 96 = j := ⟨(i % 96).toNat, by omega⟩
  rw [e]
  have hj : j < (a ++ b).length := by rw [List.length_append]; omega
  exact r_ixS (sz (by rw [List.length_append]; omega)) (atI_nat (List.getElem?_eq_getElem hj)) (h1 _ ((List.mem_append.mp (List.getElem_mem hj)).elim (oa _) (ob _)))
def sp_l_text_by (A : Ad) : Sp := fun vs H Q E => ∃ c n, vs = [.int c, .int n] ∧ 0 ≤ n ∧ n ≤ 100000 ∧ ∀ l H', l.length = n.toNat → Ok l → Same H H' → Q (.str (S l)) H'
theorem u_text_by {A : Ad} {c n : Int} {H : Hp} {Q : VK} {E : XK} (h0 : 0 ≤ n) (h1 : n ≤ 100000) (h : ∀ l H', l.length = n.toNat → Ok l → Same H H' → Q (.str (S l)) H') : sp_l_text_by A [.int c, .int n] H Q E := ⟨c, n, rfl, h0, h1, h⟩
def t_l_text_by (A : Ad) (E : XK) : TS := tRet (tBM A.K "str" (rJoin A.K) (tC (.str "")) (tCons (tLc (iRng1 (tCons (tVar 1) (tNil))) (gName 2) (tYes) (tCall (sp_l_sign_by A) [] E0 (tCons (tOp rAdd3 (tVar 0) (tOp rMul (tC (.int 7)) (tOp rDiv (tVar 2) (tOp rAdd3 (tC (.int 1)) (tOp rMod (tVar 0) (tC (.int 3))))))) (tNil))) [2]) (tNil)))
theorem p_l_text_by (A : Ad) {vs : List V} {H : Hp} {Q : VK} {E : XK} (h : sp_l_text_by A vs H Q E) : t_l_text_by A E { nx := fun _ H2 => Q .non H2, rt := Q } (start ["_law_cell", "_law_size", "_law_k"] vs) H := by
  obtain ⟨c, n, rfl, h0, hn, h1⟩ := h
  change t_l_text_by A E _ [_, _, none] _
  unfold t_l_text_by
  walk_at "rd"
  refine lc_go (walk_rng0 (n := n.toNat)) (by omega) (fun D i acc H2 => H D = none ∧ Same H H2 ∧ ∃ ls : List (List Nat), acc = ls.map (fun l => V.str (S l)) ∧ (∀ l ∈ ls, l.length = 1 ∧ Ok l) ∧ ls.length = i)
    (fun D H2 hD s2 _ => ⟨hD, s2, [], rfl, by simp, rfl⟩) (fun _ _ _ _ _ _ => trivial) ?_ ?_
  · rintro D i x acc H1 H' hi ha e ⟨hD, s1, ls, rfl, hl, rfl⟩ ⟨rfl, rfl⟩
    walk_at "rd"
    refine ⟨_, rfl, fun z hz => ?_⟩
    refine lc_end ha (by omega) e fun H5 c5 => ⟨hD, sm_chg s1 hD c5, ls ++ [[z]], by simp, ?_, by simp⟩
    intro l hl'
    rcases List.mem_append.mp hl' with h | h
    · exact hl l h
    · rw [List.mem_singleton.mp h]; exact ⟨rfl, fun c hc => by rw [List.mem_singleton.mp hc]; exact hz⟩
  · rintro D acc H1 ⟨hD, s1, ls, rfl, hl, hn⟩ e
    walk_at "rd"
    exact r_join1 hl e (by omega) fun r l1 o1 => h1 r H1 (by rw [l1, hn]) o1 s1
def sp_l_spoilt (A : Ad) : Sp := fun vs H Q E => ∃ (g : List Nat) (c : Int), vs = [.str (S g), .int c] ∧ g.length ≤ 10000 ∧ ∀ l : List Nat, l.length ≤ g.length + 1 → Q (.str (S l)) H
def t_l_spoilt (A : Ad) (E : XK) : TS := tSeq (tAsg (tOp rMod (tVar 1) (tC (.int 6))) (gName 2)) (tSeq (tAsg (tCall (sp_l_sign_by A) [] E0 (tCons (tOp rDiv (tVar 1) (tC (.int 6))) (tNil))) (gName 3)) (tSeq (tIfS (tTest (tOp (rEqG A.K) (tVar 2) (tC (.int 3)))) (tRet (tOp rAdd3 (tVar 0) (tVar 3))) (tNext)) (tSeq (tIfS (tTest (tOp (rEqG A.K) (tVar 2) (tC (.int 4)))) (tRet (tOp rAdd3 (tVar 3) (tVar 0))) (tNext)) (tSeq (tIfS (tAnd (tTest (tOp (rEqG A.K) (tVar 2) (tC (.int 5)))) (tTest (tOp (rNeG A.K) (tVar 0) (tC (.str ""))))) (tSeq (tAsg (tOp rMod (tOp rDiv (tVar 1) (tC (.int 6))) (tCB (rLenG A.K) (tCons (tVar 0) (tNil)))) (gName 4)) (tRet (tOp rAdd3 (tOp rAdd3 (tSl (rSl2 A.K) (tVar 0) (tNoPart) (tPart (tVar 4))) (tVar 3)) (tSl (rSl2 A.K) (tVar 0) (tPart (tOp rAdd3 (tVar 4) (tC (.int 1)))) (tNoPart))))) (tNext)) (tRet (tVar 0))))))
theorem p_l_spoilt (A : Ad) {vs : List V} {H : Hp} {Q : VK} {E : XK} (h : sp_l_spoilt A vs H Q E) : t_l_spoilt A E { nx := fun _ H2 => Q .non H2, rt := Q } (start ["_law_gone", "_law_cell", "_law_way", "_law_sign", "_law_k"] vs) H := by
  obtain ⟨g, c, rfl, lg, h1⟩ := h
  change t_l_spoilt A E _ [_, _, none, none, none] _
  unfold t_l_spoilt
  walk_at "rd"
  refine ⟨_, rfl, fun x hx => ?_⟩
  walk_at "rd"
  have l1 : [x].length = 1 := rfl
  refine r_dec (fun d => ?_) fun d => ?_
  · walk_at "rd"
    exact h1 _ (by rw [List.length_append]; omega)
  walk_at "rd"
  refine r_dec (fun d => ?_) fun d => ?_
  · walk_at "rd"
    exact h1 _ (by rw [List.length_append]; omega)
  walk_at "rd"
  have e0 : Str.ofString "" = S [] := by decide +kernel
  refine r_dec (fun d => ?_) fun d => ?_
  · rw [e0]
    walk_at "rd"
    refine r_ndec (fun z => ?_) fun z => ?_
    · have hl : 0 < g.length := List.length_pos_iff.mpr z
      walk_at "rd"
      obtain ⟨j, ej⟩ : ∃ j : Nat, c / 6 % (g.length : Int) = j := ⟨(c / 6 % (g.length : Int)).toNat, by have := Int.emod_nonneg (c / 6) (show (g.length : Int) ≠ 0 by omega); omega⟩
      have hj : j < g.length := by have := Int.emod_lt_of_pos (c / 6) (show 0 < (g.length : Int) by omega); omega
      rw [ej]
      have q1 := cutL_len g none (some ((j : Nat) : Int))
      have q2 := cutL_len g (some ((j : Nat) + 1 : Int)) none
      walk_at "rd"
      refine h1 _ ?_
      rw [cutL_to, show ((j : Nat) + 1 : Int) = ((j + 1 : Nat) : Int) by omega, cutL_from]
      simp
      omega
    · walk_at "rd"
      exact h1 _ (by omega)
  · walk_at "rd"
    exact h1 _ (by omega)
def sp_l_refused_by_any (A : Ad) : Sp := fun vs H Q E => ∃ (z gone come : List Nat) (at_ : Int) (t : Addr), vs = [.str (S z), .ref t] ∧ H t = some (.tup [.int at_, .str (S gone), .str (S come)]) ∧
  z.length ≤ 1000000 ∧ gone.length ≤ 1000000 ∧ come.length ≤ 1000000 ∧ ¬ Fits z at_ gone ∧ Q (.bl true) H
def t_l_refused_by_any (A : Ad) (E : XK) : TS := tSeq (tTry A.K [([.ref A.cBadBound, .ref A.cBadRows, .ref A.cInRing, .ref A.cNoVersion, .ref A.cTooFar], none, fun a cls d => tRet (tC (.bl false))), ([.ref A.cPackError], some 2, fun a cls d => tRet (tCB (rIsX A.K cls d a) (tCons (tVar 2) (tCons (tC (.ty "ValueError")) (tNil)))))] (fun W => tDrop (tCallS (sp_done A) (WE W) (tCons (tVar 0) (tCons (tVar 1) (tNil)))))) (tRet (tC (.bl false)))
theorem p_l_refused_by_any (A : Ad) (ok : Okk A) {vs : List V} {H : Hp} {Q : VK} {E : XK} (h : sp_l_refused_by_any A vs H Q E) : t_l_refused_by_any A E { nx := fun _ H2 => Q .non H2, rt := Q } (start ["_law_signs", "_law_change", "e"] vs) H := by
  obtain ⟨z, gone, come, at_, t, rfl, hT, l1, l2, l3, nf, h1⟩ := h
  change t_l_refused_by_any A E _ [_, _, none] _
  unfold t_l_refused_by_any
  walk_at "rd"
  refine ⟨z, gone, come, at_, t, rfl, hT, l1, l2, l3, fun f => absurd f nf, fun _ => ?_⟩
  refine w_no ok.no (w_yes ok.pe fun a ha => ?_)
  show tRet _ _ [some (.str (S z)), some (.ref t), some (.ref a)] H
  walk_at "rd"
  refine r_isX ok.x ok.ve h1
def sp_l_law (A : Ad) : Sp := fun vs H Q E => ∃ (a : Addr) (ns : List Int), vs = [.ref a] ∧ SqL A.K H a (ns.map V.int) ∧ ns.length ≤ 63 ∧ ∀ H', Q (.bl true) H'
theorem end_law {A : Ad} {H : Hp} {Q : VK} {E : XK} (a : Addr) (ns : List Int) (hl : ns.length ≤ 63) (hS : SqL A.K H a (ns.map V.int)) (hq : ∀ H', Q (.bl true) H') : sp_l_law A [.ref a] H Q E := ⟨a, ns, rfl, hS, hl, hq⟩
def t_l_law (A : Ad) (E : XK) : TS := tSeq (tAsg (tOp rMod (tCall (sp_l_cell_at A) [] E0 (tCons (tVar 0) (tCons (tC (.int 0)) (tNil)))) (tC (.int 9))) (gName 1)) (tCut (tIfS (tTest (tOp (rEqG A.K) (tOp rMod (tOp rDiv (tCall (sp_l_cell_at A) [] E0 (tCons (tVar 0) (tCons (tC (.int 0)) (tNil)))) (tC (.int 9))) (tC (.int 4))) (tC (.int 1)))) (tAsg (tOp rMod (tOp rDiv (tCall (sp_l_cell_at A) [] E0 (tCons (tVar 0) (tCons (tC (.int 0)) (tNil)))) (tC (.int 36))) (tC (.int 200))) (gName 1)) (tNext)) (tCut (tIfS (tTest (tOp (rEqG A.K) (tOp rMod (tOp rDiv (tCall (sp_l_cell_at A) [] E0 (tCons (tVar 0) (tCons (tC (.int 0)) (tNil)))) (tC (.int 9))) (tC (.int 16))) (tC (.int 2)))) (tAsg (tOp rMod (tOp rMul (tC (.int 7)) (tOp rDiv (tCall (sp_l_cell_at A) [] E0 (tCons (tVar 0) (tCons (tC (.int 0)) (tNil)))) (tC (.int 144)))) (tC (.int 2000))) (gName 1)) (tNext)) (tSeq (tAsg (tCall (sp_l_text_by A) [] E0 (tCons (tCall (sp_l_cell_at A) [] E0 (tCons (tVar 0) (tCons (tC (.int 1)) (tNil)))) (tCons (tVar 1) (tNil)))) (gName 2)) (tSeq (tAsg (tOp rMod (tCall (sp_l_cell_at A) [] E0 (tCons (tVar 0) (tCons (tC (.int 2)) (tNil)))) (tC (.int 5))) (gName 3)) (tCut (tIfS (tTest (tOp (rEqG A.K) (tOp rMod (tOp rDiv (tCall (sp_l_cell_at A) [] E0 (tCons (tVar 0) (tCons (tC (.int 2)) (tNil)))) (tC (.int 5))) (tC (.int 8))) (tC (.int 1)))) (tAsg (tOp rAdd3 (tVar 3) (tC (.int 60))) (gName 3)) (tNext)) (tSeq (tAsg (tCall (sp_l_text_by A) [] E0 (tCons (tCall (sp_l_cell_at A) [] E0 (tCons (tVar 0) (tCons (tC (.int 3)) (tNil)))) (tCons (tVar 3) (tNil)))) (gName 4)) (tSeq (tAsg (tOp rMod (tCall (sp_l_cell_at A) [] E0 (tCons (tVar 0) (tCons (tC (.int 6)) (tNil)))) (tOp rPow (tC (.int 10)) (tC (.int 30)))) (gName 5)) (tSeq (tAsg (tOp rSub (tOp rMod (tCall (sp_l_cell_at A) [] E0 (tCons (tVar 0) (tCons (tC (.int 4)) (tNil)))) (tOp rAdd3 (tVar 1) (tC (.int 8)))) (tC (.int 3))) (gName 6)) (tCut (tIfS (tTest (tOp (rGt) (tVar 6) (tOp rAdd3 (tVar 1) (tC (.int 1))))) (tAsg (tOp (rIx A.K) (tLst (tCons (tOp rPow (tC (.int 10)) (tC (.int 12))) (tCons (tVar 5) (tCons (tOp rSub (tUn rNeg (tC (.int 1))) (tVar 5)) (tNil))))) (tOp rSub (tOp rSub (tVar 6) (tVar 1)) (tC (.int 2)))) (gName 6)) (tNext)) (tSeq (tAsg (tCB (rMax2) (tCons (tVar 6) (tCons (tC (.int 0)) (tNil)))) (gName 7)) (tSeq (tAsg (tOp rMod (tCall (sp_l_cell_at A) [] E0 (tCons (tVar 0) (tCons (tC (.int 5)) (tNil)))) (tC (.int 5))) (gName 8)) (tCut (tIfS (tTest (tOp (rEqG A.K) (tOp rMod (tOp rDiv (tCall (sp_l_cell_at A) [] E0 (tCons (tVar 0) (tCons (tC (.int 5)) (tNil)))) (tC (.int 5))) (tC (.int 2))) (tC (.int 1)))) (tAsg (tOp rMod (tOp rDiv (tCall (sp_l_cell_at A) [] E0 (tCons (tVar 0) (tCons (tC (.int 5)) (tNil)))) (tC (.int 10))) (tC (.int 2000))) (gName 8)) (tNext)) (tSeq (tAsg (tCall (sp_l_spoilt A) [] E0 (tCons (tSl (rSl2 A.K) (tVar 2) (tPart (tVar 7)) (tPart (tOp rAdd3 (tVar 7) (tVar 8)))) (tCons (tCall (sp_l_cell_at A) [] E0 (tCons (tVar 0) (tCons (tC (.int 7)) (tNil)))) (tNil)))) (gName 9)) (tSeq (tAsg (tOp rAdd3 (tVar 6) (tCB (rLenG A.K) (tCons (tVar 9) (tNil)))) (gName 10)) (tSeq (tAsg (tAndV (tOp (rLe) (tC (.int 0)) (tVar 6)) (tAndV (tOp (rLe) (tVar 10) (tCB (rLenG A.K) (tCons (tVar 2) (tNil)))) (tOp (rEqG A.K) (tSl (rSl2 A.K) (tVar 2) (tPart (tCB (rMax2) (tCons (tVar 6) (tCons (tC (.int 0)) (tNil))))) (tPart (tCB (rMax2) (tCons (tVar 10) (tCons (tC (.int 0)) (tNil)))))) (tVar 9)))) (gName 11)) (tSeq (tAsg (tC (.bl false)) (gName 12)) (tSeq (tAsg (tC .non) (gName 13)) (tSeq (tTry A.K [([.ref A.cNoFit], none, fun a cls d => tAsg (tC (.bl true)) (gName 12))] (fun W => tAsg (tCallS (sp_done A) (WE W) (tCons (tVar 2) (tCons (tTup (tCons (tVar 6) (tCons (tVar 9) (tCons (tVar 4) (tNil))))) (tNil)))) (gName 13))) (tSeq (tIfS (tNot (tB (tVar 11))) (tRet (tAndV (tVar 12) (tCall (sp_l_refused_by_any A) [] E0 (tCons (tVar 2) (tCons (tTup (tCons (tVar 6) (tCons (tVar 9) (tCons (tVar 4) (tNil))))) (tNil)))))) (tNext)) (tRet (tAndV (tNotV (tVar 12)) (tAndV (tCB (rIsi A.K) (tCons (tVar 13) (tCons (tC (.ty "str")) (tNil)))) (tOp (rEqG A.K) (tVar 13) (tOp rAdd3 (tOp rAdd3 (tSl (rSl2 A.K) (tVar 2) (tNoPart) (tPart (tVar 6))) (tVar 4)) (tSl (rSl2 A.K) (tVar 2) (tPart (tVar 10)) (tNoPart))))))))))))))))))))))))))
theorem p_l_law (A : Ad) (ok : Okk A) {vs : List V} {H : Hp} {Q : VK} {E : XK} (h : sp_l_law A vs H Q E) : t_l_law A E { nx := fun _ H2 => Q .non H2, rt := Q } (start ["_law_script", "_law_size", "_law_signs", "_law_many", "_law_come", "_law_far", "_law_at", "_law_ahead", "_law_long", "_law_gone", "_law_end", "_law_good", "_law_refused", "_law_found"] vs) H := by
  obtain ⟨a, ns, rfl, hS, hl, h1⟩ := h
  change t_l_law A E _ [_, none, none, none, none, none, none, none, none, none, none, none, none, none] _
  unfold t_l_law
  walk_at "rd"
  refine r_cut (fun σ' H' => ∃ m : Int, σ' = [some (.ref a), some (.int m), none, none, none, none, none, none, none, none, none, none, none, none] ∧ 0 ≤ m ∧ m < 200 ∧ H' = H) ?_ ?_
  · walk_at "rd"
    refine r_dec (fun c => ?_) (fun c => ?_)
    · walk_at "rd"
      exact ⟨_, rfl, by omega, by omega, rfl⟩
    · walk_at "rd"
      exact ⟨_, rfl, by omega, by omega, rfl⟩
  rintro σ' H' ⟨m0, rfl, m1, m2, rfl⟩
  walk_at "rd"
  refine r_cut (fun σ' H2 => ∃ m : Int, σ' = [some (.ref a), some (.int m), none, none, none, none, none, none, none, none, none, none, none, none] ∧ 0 ≤ m ∧ m < 2000 ∧ H2 = H') ?_ ?_
  · walk_at "rd"
    refine r_dec (fun c => ?_) (fun c => ?_)
    · walk_at "rd"
      exact ⟨_, rfl, by omega, by omega, rfl⟩
    · walk_at "rd"
      exact ⟨_, rfl, by omega, by omega, rfl⟩
  rintro σ' H ⟨m, rfl, m3, m4, rfl⟩
  walk_at "rd"
  refine u_text_by (by omega) (by omega) fun z H1 lz oz s1 => ?_
  walk_at "rd"
  refine r_cut (fun σ' H2 => ∃ k : Int, σ' = [some (.ref a), some (.int m), some (.str (S z)), some (.int k), none, none, none, none, none, none, none, none, none, none] ∧ 0 ≤ k ∧ k < 100 ∧ H2 = H1) ?_ ?_
  · walk_at "rd"
    refine r_dec (fun c => ?_) (fun c => ?_)
    · walk_at "rd"
      exact ⟨_, rfl, by omega, by omega, rfl⟩
    · walk_at "rd"
      exact ⟨_, rfl, by omega, by omega, rfl⟩
  rintro σ' H2 ⟨k, rfl, k1, k2, rfl⟩
  walk_at "rd"
  refine u_text_by (by omega) (by omega) fun come H3 lc oc s3 => ?_
  walk_at "rd"
  generalize cellAt ns 6 % 10 ^ Int.toNat 30 = far
  walk_at "rd"
  have hat0 : cellAt ns 4 % (m + 8) - 3 ≤ m + 4 := by
    have := Int.emod_lt_of_pos (cellAt ns 4) (show 0 < m + 8 by omega)
    omega
  generalize cellAt ns 4 % (m + 8) - 3 = at0 at *
  refine r_cut (fun σ' H4 => ∃ at_ : Int, σ' = [some (.ref a), some (.int m), some (.str (S z)), some (.int k), some (.str (S come)), some (.int far), some (.int at_), none, none, none, none, none, none, none] ∧ Same H3 H4) ?_ ?_
  · walk_at "rd"
    refine r_dec (fun c => ?_) (fun c => ?_)
    · walk_at "rd"
      intro p H4 np s4 e4
      walk_at "rd"
      have hi : at0 - m - 2 = 0 ∨ at0 - m - 2 = 1 ∨ at0 - m - 2 = 2 := by omega
      obtain ⟨v, hv⟩ : ∃ v, atI [V.int (10 ^ (12 : Int).toNat), V.int far, V.int (-1 - far)] (at0 - m - 2) = some (.int v) := by
        rcases hi with e | e | e <;> rw [e] <;> exact ⟨_, rfl⟩
      refine r_ixL (.of e4) hv ?_
      walk_at "rd"
      exact ⟨_, rfl, s4⟩
    · walk_at "rd"
      exact ⟨_, rfl, fun _ _ z => z⟩
  rintro σ' H4 ⟨at_, rfl, s4⟩
  walk_at "rd"
  generalize max at_ 0 = ahead
  have a4 : SqL A.K H4 a (ns.map V.int) := Same.seq ((s1.trans s3).trans s4) hS
  refine r_cut (fun σ' H5 => ∃ n : Int, σ' = [some (.ref a), some (.int m), some (.str (S z)), some (.int k), some (.str (S come)), some (.int far), some (.int at_), some (.int ahead), some (.int n), none, none, none, none, none] ∧ H5 = H4) ?_ ?_
  · walk_at "rd"
    refine r_dec (fun c => ?_) (fun c => ?_)
    · walk_at "rd"
      exact ⟨_, rfl, rfl⟩
    · walk_at "rd"
      exact ⟨_, rfl, rfl⟩
  rintro σ' H5 ⟨n, rfl, rfl⟩
  have q1 := cutL_len z (some ahead) (some (ahead + n))
  walk_at "rd"
  refine ⟨_, _, rfl, by omega, fun gone lg => ?_⟩
  iterate 14 walk_at "r1"
  have key : ∀ {Q' : VK}, (∀ g : Bool, (g = true ↔ Fits z at_ gone) → Q' (.bl g) H5) → (tAndV (tOp rLe (tC (V.int 0)) (tVar 6)) (tAndV (tOp rLe (tVar 10) (tCB (rLenG A.K) (tCons (tVar 2) tNil))) (tOp (rEqG A.K) (tSl (rSl2 A.K) (tVar 2) (tPart (tCB rMax2 (tCons (tVar 6) (tCons (tC (V.int 0)) tNil)))) (tPart (tCB rMax2 (tCons (tVar 10) (tCons (tC (V.int 0)) tNil))))) (tVar 9)))) [some (V.ref a), some (V.int m), some (V.str (S z)), some (V.int k), some (V.str (S come)), some (V.int far), some (V.int at_), some (V.int ahead), some (V.int n), some (V.str (S gone)), some (V.int (at_ + gone.length)), none, none, none] H5 Q' := fun {Q'} q => by
    walk_at "rd"
    refine r_dec (fun c => ?_) fun c => ?_
    · walk_at "rd"
      refine r_dec (fun c2 => ?_) fun c2 => ?_
      · walk_at "rd"
        rw [Int.max_eq_left c, Int.max_eq_left (show 0 ≤ at_ + (gone.length : Int) by omega)]
        exact q _ ⟨fun e => ⟨c, c2, of_decide_eq_true e⟩, fun f => decide_eq_true f.2.2⟩
      · exact q false ⟨(fun e => by cases e), fun f => absurd f.2.1 c2⟩
    · exact q false ⟨(fun e => by cases e), fun f => absurd f.1 c⟩
  refine key fun g hg => ?_
  clear key
  walk_at "rd"
  intro t H6 nt s6 e6
  walk_at "rd"
  have lg2 : gone.length ≤ 10000 := by omega
  have lc2 : come.length ≤ 10000 := by omega
  refine ⟨z, gone, come, at_, t, rfl, e6, by omega, by omega, by omega, fun f => ?_, fun nf => ?_⟩
  · have hd : doneL z at_ gone come = cutL z none (some at_) ++ come ++ cutL z (some (at_ + gone.length)) none := rfl
    rw [hg.mpr f]
    have q1 := cutL_len z none (some at_)
    have q2 := cutL_len z (some (at_ + gone.length)) none
    walk_at "rd"
    rw [hd]
    rw [decide_eq_true rfl]
    exact h1 _
  · refine w_yes ok.nf fun b hb => ?_
    show tAsg _ _ ⟨_, _, _, _⟩ [some (V.ref a), some (V.int m), some (V.str (S z)), some (V.int k), some (V.str (S come)), some (V.int far), some (V.int at_), some (V.int ahead), some (V.int n), some (V.str (S gone)), some (V.int (at_ + gone.length)), some (.bl g), some (.bl false), some .non] H6
    have eg : g = false := by
      cases g with
      | false => rfl
      | true => exact absurd (hg.mp rfl) nf
    subst eg
    walk_at "rd"
    intro t2 H7 nt2 s7 e7
    walk_at "rd"
    exact ⟨z, gone, come, at_, t2, rfl, e7, by omega, by omega, by omega, nf, h1 _⟩
/-! ### the row: where each def stands, its derivation -/
def topS (i : Nat) : Stmt := PySem.Challenge.pw_packdelta_k01_a_change_done.main.body.getD i (.Pass ⟨0, 0, 0, 0⟩)
abbrev s_done : Stmt := topS 9
abbrev n_done : List Str := ["text", "change", "at", "end"]
abbrev a_done : List Str := ["text", "change"]
theorem sc_done : FnScope n_done a_done (defScope s_done) := ⟨rfl, rfl, rfl, by decide +kernel, rfl, by decide +kernel, by decide +kernel⟩
abbrev s_l_cell_at : Stmt := topS 11
abbrev n_l_cell_at : List Str := ["_law_script", "_law_k"]
abbrev a_l_cell_at : List Str := ["_law_script", "_law_k"]
theorem sc_l_cell_at : FnScope n_l_cell_at a_l_cell_at (defScope s_l_cell_at) := ⟨rfl, rfl, rfl, by decide +kernel, rfl, by decide +kernel, by decide +kernel⟩
abbrev s_l_sign_by : Stmt := topS 12
abbrev n_l_sign_by : List Str := ["_law_cell", "_law_some"]
abbrev a_l_sign_by : List Str := ["_law_cell"]
theorem sc_l_sign_by : FnScope n_l_sign_by a_l_sign_by (defScope s_l_sign_by) := ⟨rfl, rfl, rfl, by decide +kernel, rfl, by decide +kernel, by decide +kernel⟩
abbrev s_l_text_by : Stmt := topS 13
abbrev n_l_text_by : List Str := ["_law_cell", "_law_size", "_law_k"]
abbrev a_l_text_by : List Str := ["_law_cell", "_law_size"]
theorem sc_l_text_by : FnScope n_l_text_by a_l_text_by (defScope s_l_text_by) := ⟨rfl, rfl, rfl, by decide +kernel, rfl, by decide +kernel, by decide +kernel⟩
abbrev s_l_spoilt : Stmt := topS 14
abbrev n_l_spoilt : List Str := ["_law_gone", "_law_cell", "_law_way", "_law_sign", "_law_k"]
abbrev a_l_spoilt : List Str := ["_law_gone", "_law_cell"]
theorem sc_l_spoilt : FnScope n_l_spoilt a_l_spoilt (defScope s_l_spoilt) := ⟨rfl, rfl, rfl, by decide +kernel, rfl, by decide +kernel, by decide +kernel⟩
abbrev s_l_refused_by_any : Stmt := topS 15
abbrev n_l_refused_by_any : List Str := ["_law_signs", "_law_change", "e"]
abbrev a_l_refused_by_any : List Str := ["_law_signs", "_law_change"]
theorem sc_l_refused_by_any : FnScope n_l_refused_by_any a_l_refused_by_any (defScope s_l_refused_by_any) := ⟨rfl, rfl, rfl, by decide +kernel, rfl, by decide +kernel, by decide +kernel⟩
abbrev s_l_law : Stmt := topS 16
abbrev n_l_law : List Str := ["_law_script", "_law_size", "_law_signs", "_law_many", "_law_come", "_law_far", "_law_at", "_law_ahead", "_law_long", "_law_gone", "_law_end", "_law_good", "_law_refused", "_law_found"]
abbrev a_l_law : List Str := ["_law_script"]
theorem sc_l_law : FnScope n_l_law a_l_law (defScope s_l_law) := ⟨rfl, rfl, rfl, by decide +kernel, rfl, by decide +kernel, by decide +kernel⟩
structure TF (A : Ad) (mg : Str → Option Value) : Prop where
  ValueError_ : mg "ValueError" = none
  isinstance_ : mg "isinstance" = none
  len_ : mg "len" = none
  max_ : mg "max" = none
  range_ : mg "range" = none
  str_ : mg "str" = none
  eBadBound : ExAt A.K mg "BadBound" A.cBadBound
  eBadRows : ExAt A.K mg "BadRows" A.cBadRows
  eInRing : ExAt A.K mg "InRing" A.cInRing
  eNoFit : ExAt A.K mg "NoFit" A.cNoFit
  eNoVersion : ExAt A.K mg "NoVersion" A.cNoVersion
  ePackError : ExAt A.K mg "PackError" A.cPackError
  eTooFar : ExAt A.K mg "TooFar" A.cTooFar
section
variable {P : Program} {w : World} {A : Ad} {mg : Str → Option Value} {base : Heap}
theorem d_done (T : TF A mg)  {f : Addr} {fd : FuncData} (F : FunD A.K "done" "done" (defArgs s_done) (defBody s_done) (defScope s_done) [] [] f fd) : FnOk P w A.K mg base (L2.CX P w) 1 f fd a_done (sp_done A) := by
  refine F.ok (k := 0) sc_done (fun vs H Q E h => ?_) (fun cdv A2 outer s H vs Q E hr h => ⟨t_done A E, ?_, p_done A  h⟩)
  · unfold sp_done at h
    (repeat (obtain ⟨_, h⟩ := h)); subst_vars; rfl
  · exact pss_cons (ps_set (i := 2) sc_done.nd rfl (Or.inl rfl) (pe_ix ix_seq (pv 1) (pe_int) (fun _ _ => rfl))) (pss_cons (ps_set (i := 3) sc_done.nd rfl (Or.inl rfl) (pe_op op_add3 (pv 2) (pe_callB call_lenG (by rfl) T.len_ (by decide +kernel) (pa_cons (pe_ix ix_seq (pv 1) (pe_int) (fun _ _ => rfl)) (pa_nil))))) (pss_cons (ps_if (PW.pt (pw_or (pt_cmpR op_lt (pv 2) (pe_int) (nomark _)) (pw_or (pt_cmpR op_gt (pv 3) (pe_callB call_lenG (by rfl) T.len_ (by decide +kernel) (pa_cons (pv 0) (pa_nil))) (nomark _)) (pw_or1 (pt_cmpR (op_neG hr.units) (pe_slice sl_2 (pv 0) (po_some (pv 2)) (po_some (pv 3))) (pe_ix ix_seq (pv 1) (pe_int) (fun _ _ => rfl)) (nomark _)))))) (pss_one (ps_raise rfl (takes_of rfl rfl rfl rfl) (pmk_own PySem.F.excBase_ValueError T.eNoFit.x T.eNoFit.mg T.eNoFit.k (raises_own T.eNoFit.b T.eNoFit.t) (by exact rfl)))) (pss_nil)) (pss_one (ps_ret (pe_op op_add3 (pe_op op_add3 (pe_slice sl_2 (pv 0) (po_none) (po_some (pv 2))) (pe_ix ix_seq (pv 1) (pe_int) (fun _ _ => rfl))) (pe_slice sl_2 (pv 0) (po_some (pv 3)) (po_none)))))))
theorem d_l_cell_at (T : TF A mg)  {f : Addr} {fd : FuncData} (F : FunD A.K "_law_cell_at" "_law_cell_at" (defArgs s_l_cell_at) (defBody s_l_cell_at) (defScope s_l_cell_at) [] [] f fd) : FnOk P w A.K mg base (L2.CX P w) 1 f fd a_l_cell_at (sp_l_cell_at A) := by
  refine F.ok (k := 0) sc_l_cell_at (fun vs H Q E h => ?_) (fun cdv A2 outer s H vs Q E hr h => ⟨t_l_cell_at A E, ?_, p_l_cell_at A  h⟩)
  · unfold sp_l_cell_at at h
    (repeat (obtain ⟨_, h⟩ := h)); subst_vars; rfl
  · exact pss_cons (ps_if (pt_cmpR op_lt (pv 1) (pe_callB call_lenG (by rfl) T.len_ (by decide +kernel) (pa_cons (pv 0) (pa_nil))) (nomark _)) (pss_one (ps_ret (pe_ix ix_seq (pv 0) (pv 1) (fun _ _ => rfl)))) (pss_nil)) (pss_one (ps_ret (pe_int)))
theorem d_l_sign_by (T : TF A mg)  {f : Addr} {fd : FuncData} (F : FunD A.K "_law_sign_by" "_law_sign_by" (defArgs s_l_sign_by) (defBody s_l_sign_by) (defScope s_l_sign_by) [] [] f fd) : FnOk P w A.K mg base (L2.CX P w) 1 f fd a_l_sign_by (sp_l_sign_by A) := by
  refine F.ok (k := 0) sc_l_sign_by (fun vs H Q E h => ?_) (fun cdv A2 outer s H vs Q E hr h => ⟨t_l_sign_by A E, ?_, p_l_sign_by A  h⟩)
  · unfold sp_l_sign_by at h
    (repeat (obtain ⟨_, h⟩ := h)); subst_vars; rfl
  · exact pss_cons (ps_set (i := 1) sc_l_sign_by.nd rfl (Or.inl rfl) (pe_str)) (pss_cons (ps_set (i := 1) sc_l_sign_by.nd rfl (Or.inl rfl) (pe_op op_add3 (pv 1) (pe_str))) (pss_one (ps_ret (pe_ix ix_seq (pv 1) (pe_op op_mod (pv 0) (pe_int)) (fun _ _ => rfl)))))
theorem d_l_text_by (T : TF A mg)  {f : Addr} {fd : FuncData} (F : FunD A.K "_law_text_by" "_law_text_by" (defArgs s_l_text_by) (defBody s_l_text_by) (defScope s_l_text_by) [] [] f fd) {f_l_sign_by : Addr} {fd_l_sign_by : FuncData} (G_l_sign_by : FnAt P w A.K mg base "_law_sign_by" 1 a_l_sign_by (sp_l_sign_by A) f_l_sign_by fd_l_sign_by) : FnOk P w A.K mg base (L2.CX P w) 2 f fd a_l_text_by (sp_l_text_by A) := by
  refine F.ok (k := 1) sc_l_text_by (fun vs H Q E h => ?_) (fun cdv A2 outer s H vs Q E hr h => ⟨t_l_text_by A E, ?_, p_l_text_by A  h⟩)
  · unfold sp_l_text_by at h
    (repeat (obtain ⟨_, h⟩ := h)); subst_vars; rfl
  · have hr_1 := hr.mono (show 1 ≤ 1 by decide)
    exact pss_one (ps_ret (pe_bm PySem.F.plainAttrs_str PySem.F.slot_str_join PySem.F.type_str_join mt_join (pe_str) (pa_cons (pe_lc (own := [("_law_k", 2)]) (g := gName 2) (tt := tYes) rfl sc_l_text_by.nd (pi_range1 rfl T.range_ (pa_cons (pv 1) (pa_nil))) (blkOk_by (own := [("_law_k", 2)]) (N := n_l_text_by) (sc := defScope s_l_text_by) (by decide +kernel)) (fun _ _ _ _ _ => pg_name (i := 2) sc_l_text_by.nd rfl (Or.inl rfl)) (fun _ _ _ _ _ => pts_nil) (fun _ _ _ _ _ => pe_call G_l_sign_by.ok hr_1 (by rfl) G_l_sign_by.mg G_l_sign_by.kp G_l_sign_by.b .nil (passL) (pa_cons (pe_op op_add3 (pv 0) (pe_op op_mul (pe_int) (pe_op op_fdiv (pv 2) (pe_op op_add3 (pe_int) (pe_op op_mod (pv 0) (pe_int)))))) (pa_nil)))) (pa_nil))))
theorem d_l_spoilt (T : TF A mg)  {f : Addr} {fd : FuncData} (F : FunD A.K "_law_spoilt" "_law_spoilt" (defArgs s_l_spoilt) (defBody s_l_spoilt) (defScope s_l_spoilt) [] [] f fd) {f_l_sign_by : Addr} {fd_l_sign_by : FuncData} (G_l_sign_by : FnAt P w A.K mg base "_law_sign_by" 1 a_l_sign_by (sp_l_sign_by A) f_l_sign_by fd_l_sign_by) : FnOk P w A.K mg base (L2.CX P w) 2 f fd a_l_spoilt (sp_l_spoilt A) := by
  refine F.ok (k := 1) sc_l_spoilt (fun vs H Q E h => ?_) (fun cdv A2 outer s H vs Q E hr h => ⟨t_l_spoilt A E, ?_, p_l_spoilt A  h⟩)
  · unfold sp_l_spoilt at h
    (repeat (obtain ⟨_, h⟩ := h)); subst_vars; rfl
  · have hr_1 := hr.mono (show 1 ≤ 1 by decide)
    exact pss_cons (ps_set (i := 2) sc_l_spoilt.nd rfl (Or.inl rfl) (pe_op op_mod (pv 1) (pe_int))) (pss_cons (ps_set (i := 3) sc_l_spoilt.nd rfl (Or.inl rfl) (pe_call G_l_sign_by.ok hr_1 (by rfl) G_l_sign_by.mg G_l_sign_by.kp G_l_sign_by.b .nil (passL) (pa_cons (pe_op op_fdiv (pv 1) (pe_int)) (pa_nil)))) (pss_cons (ps_if (pt_cmpR (op_eqG hr.units) (pv 2) (pe_int) (nomark _)) (pss_one (ps_ret (pe_op op_add3 (pv 0) (pv 3)))) (pss_nil)) (pss_cons (ps_if (pt_cmpR (op_eqG hr.units) (pv 2) (pe_int) (nomark _)) (pss_one (ps_ret (pe_op op_add3 (pv 3) (pv 0)))) (pss_nil)) (pss_cons (ps_if (PW.pt (pw_and (pt_cmpR (op_eqG hr.units) (pv 2) (pe_int) (nomark _)) (pw_and1 (pt_cmpR (op_neG hr.units) (pv 0) (pe_str) (nomark _))))) (pss_cons (ps_set (i := 4) sc_l_spoilt.nd rfl (Or.inl rfl) (pe_op op_mod (pe_op op_fdiv (pv 1) (pe_int)) (pe_callB call_lenG (by rfl) T.len_ (by decide +kernel) (pa_cons (pv 0) (pa_nil))))) (pss_one (ps_ret (pe_op op_add3 (pe_op op_add3 (pe_slice sl_2 (pv 0) (po_none) (po_some (pv 4))) (pv 3)) (pe_slice sl_2 (pv 0) (po_some (pe_op op_add3 (pv 4) (pe_int))) (po_none)))))) (pss_nil)) (pss_one (ps_ret (pv 0)))))))
theorem d_l_refused_by_any (T : TF A mg) (ok : Okk A) {f : Addr} {fd : FuncData} (F : FunD A.K "_law_refused_by_any" "_law_refused_by_any" (defArgs s_l_refused_by_any) (defBody s_l_refused_by_any) (defScope s_l_refused_by_any) [] [] f fd) {f_done : Addr} {fd_done : FuncData} (G_done : FnAt P w A.K mg base "done" 1 a_done (sp_done A) f_done fd_done) : FnOk P w A.K mg base (L2.CX P w) 2 f fd a_l_refused_by_any (sp_l_refused_by_any A) := by
  refine F.ok (k := 1) sc_l_refused_by_any (fun vs H Q E h => ?_) (fun cdv A2 outer s H vs Q E hr h => ⟨t_l_refused_by_any A E, ?_, p_l_refused_by_any A ok h⟩)
  · unfold sp_l_refused_by_any at h
    (repeat (obtain ⟨_, h⟩ := h)); subst_vars; rfl
  · have hr_1 := hr.mono (show 1 ≤ 1 by decide)
    exact pss_cons (ps_try_any rfl rfl takes_none5 (fun W pn xe tk px => pss_one (ps_expr (pe_callS G_done.ok hr_1 (by rfl) G_done.mg G_done.kp G_done.b (fun σ => passAt tk σ) (pa_cons (pv 0) (pa_cons (pv 1) (pa_nil)))))) (.one (clt_5 (show Names _ _ _ from ⟨by rfl, by decide, .inl T.eBadBound.mg⟩) (show Names _ _ _ from ⟨by rfl, by decide, .inl T.eBadRows.mg⟩) (show Names _ _ _ from ⟨by rfl, by decide, .inl T.eInRing.mg⟩) (show Names _ _ _ from ⟨by rfl, by decide, .inl T.eNoVersion.mg⟩) (show Names _ _ _ from ⟨by rfl, by decide, .inl T.eTooFar.mg⟩)) (fun a oe cls d pn hz hf => pss_one (ps_ret (pe_bl))) (.as (i := 2) sc_l_refused_by_any.nd rfl rfl (clt_one (show Names _ _ _ from ⟨by rfl, by decide, .inl T.ePackError.mg⟩)) (fun a oe cls d pn hz hf => pss_one (ps_ret (pe_callB (call_isX hz hf) (by rfl) T.isinstance_ (by decide +kernel) (pa_cons (pv 2) (pa_cons (pe_bltn (by rfl) T.ValueError_ (by decide +kernel) rfl) (pa_nil)))))) .nil))) (pss_one (ps_ret (pe_bl)))
theorem d_l_law (T : TF A mg) (ok : Okk A) {f : Addr} {fd : FuncData} (F : FunD A.K "law" "law" (defArgs s_l_law) (defBody s_l_law) (defScope s_l_law) [] [] f fd) {f_l_text_by : Addr} {fd_l_text_by : FuncData} (G_l_text_by : FnAt P w A.K mg base "_law_text_by" 2 a_l_text_by (sp_l_text_by A) f_l_text_by fd_l_text_by) {f_l_spoilt : Addr} {fd_l_spoilt : FuncData} (G_l_spoilt : FnAt P w A.K mg base "_law_spoilt" 2 a_l_spoilt (sp_l_spoilt A) f_l_spoilt fd_l_spoilt) {f_l_cell_at : Addr} {fd_l_cell_at : FuncData} (G_l_cell_at : FnAt P w A.K mg base "_law_cell_at" 1 a_l_cell_at (sp_l_cell_at A) f_l_cell_at fd_l_cell_at) {f_done : Addr} {fd_done : FuncData} (G_done : FnAt P w A.K mg base "done" 1 a_done (sp_done A) f_done fd_done) {f_l_refused_by_any : Addr} {fd_l_refused_by_any : FuncData} (G_l_refused_by_any : FnAt P w A.K mg base "_law_refused_by_any" 2 a_l_refused_by_any (sp_l_refused_by_any A) f_l_refused_by_any fd_l_refused_by_any) : FnOk P w A.K mg base CX0 3 f fd a_l_law (sp_l_law A) := by
  refine F.ok (k := 2) sc_l_law (fun vs H Q E h => ?_) (fun cdv A2 outer s H vs Q E hr h => ⟨t_l_law A E, ?_, p_l_law A ok h⟩)
  · unfold sp_l_law at h
    (repeat (obtain ⟨_, h⟩ := h)); subst_vars; rfl
  · have hr_1 := hr.mono (show 1 ≤ 2 by decide)
    have hr_2 := hr.mono (show 2 ≤ 2 by decide)
    exact pss_cons (ps_set (i := 1) sc_l_law.nd rfl (Or.inl rfl) (pe_op op_mod (pe_call G_l_cell_at.ok hr_1 (by rfl) G_l_cell_at.mg G_l_cell_at.kp G_l_cell_at.b .nil (passL) (pa_cons (pv 0) (pa_cons (pe_int) (pa_nil)))) (pe_int))) (pss_cut (ps_if (pt_cmpR (op_eqG hr.units) (pe_op op_mod (pe_op op_fdiv (pe_call G_l_cell_at.ok hr_1 (by rfl) G_l_cell_at.mg G_l_cell_at.kp G_l_cell_at.b .nil (passL) (pa_cons (pv 0) (pa_cons (pe_int) (pa_nil)))) (pe_int)) (pe_int)) (pe_int) (nomark _)) (pss_one (ps_set (i := 1) sc_l_law.nd rfl (Or.inl rfl) (pe_op op_mod (pe_op op_fdiv (pe_call G_l_cell_at.ok hr_1 (by rfl) G_l_cell_at.mg G_l_cell_at.kp G_l_cell_at.b .nil (passL) (pa_cons (pv 0) (pa_cons (pe_int) (pa_nil)))) (pe_int)) (pe_int)))) (pss_nil)) (pss_cut (ps_if (pt_cmpR (op_eqG hr.units) (pe_op op_mod (pe_op op_fdiv (pe_call G_l_cell_at.ok hr_1 (by rfl) G_l_cell_at.mg G_l_cell_at.kp G_l_cell_at.b .nil (passL) (pa_cons (pv 0) (pa_cons (pe_int) (pa_nil)))) (pe_int)) (pe_int)) (pe_int) (nomark _)) (pss_one (ps_set (i := 1) sc_l_law.nd rfl (Or.inl rfl) (pe_op op_mod (pe_op op_mul (pe_int) (pe_op op_fdiv (pe_call G_l_cell_at.ok hr_1 (by rfl) G_l_cell_at.mg G_l_cell_at.kp G_l_cell_at.b .nil (passL) (pa_cons (pv 0) (pa_cons (pe_int) (pa_nil)))) (pe_int))) (pe_int)))) (pss_nil)) (pss_cons (ps_set (i := 2) sc_l_law.nd rfl (Or.inl rfl) (pe_call G_l_text_by.ok hr_2 (by rfl) G_l_text_by.mg G_l_text_by.kp G_l_text_by.b .nil (passL) (pa_cons (pe_call G_l_cell_at.ok hr_1 (by rfl) G_l_cell_at.mg G_l_cell_at.kp G_l_cell_at.b .nil (passL) (pa_cons (pv 0) (pa_cons (pe_int) (pa_nil)))) (pa_cons (pv 1) (pa_nil))))) (pss_cons (ps_set (i := 3) sc_l_law.nd rfl (Or.inl rfl) (pe_op op_mod (pe_call G_l_cell_at.ok hr_1 (by rfl) G_l_cell_at.mg G_l_cell_at.kp G_l_cell_at.b .nil (passL) (pa_cons (pv 0) (pa_cons (pe_int) (pa_nil)))) (pe_int))) (pss_cut (ps_if (pt_cmpR (op_eqG hr.units) (pe_op op_mod (pe_op op_fdiv (pe_call G_l_cell_at.ok hr_1 (by rfl) G_l_cell_at.mg G_l_cell_at.kp G_l_cell_at.b .nil (passL) (pa_cons (pv 0) (pa_cons (pe_int) (pa_nil)))) (pe_int)) (pe_int)) (pe_int) (nomark _)) (pss_one (ps_set (i := 3) sc_l_law.nd rfl (Or.inl rfl) (pe_op op_add3 (pv 3) (pe_int)))) (pss_nil)) (pss_cons (ps_set (i := 4) sc_l_law.nd rfl (Or.inl rfl) (pe_call G_l_text_by.ok hr_2 (by rfl) G_l_text_by.mg G_l_text_by.kp G_l_text_by.b .nil (passL) (pa_cons (pe_call G_l_cell_at.ok hr_1 (by rfl) G_l_cell_at.mg G_l_cell_at.kp G_l_cell_at.b .nil (passL) (pa_cons (pv 0) (pa_cons (pe_int) (pa_nil)))) (pa_cons (pv 3) (pa_nil))))) (pss_cons (ps_set (i := 5) sc_l_law.nd rfl (Or.inl rfl) (pe_op op_mod (pe_call G_l_cell_at.ok hr_1 (by rfl) G_l_cell_at.mg G_l_cell_at.kp G_l_cell_at.b .nil (passL) (pa_cons (pv 0) (pa_cons (pe_int) (pa_nil)))) (pe_op op_pow (pe_int) (pe_int)))) (pss_cons (ps_set (i := 6) sc_l_law.nd rfl (Or.inl rfl) (pe_op op_sub (pe_op op_mod (pe_call G_l_cell_at.ok hr_1 (by rfl) G_l_cell_at.mg G_l_cell_at.kp G_l_cell_at.b .nil (passL) (pa_cons (pv 0) (pa_cons (pe_int) (pa_nil)))) (pe_op op_add3 (pv 1) (pe_int))) (pe_int))) (pss_cut (ps_if (pt_cmpR op_gt (pv 6) (pe_op op_add3 (pv 1) (pe_int)) (nomark _)) (pss_one (ps_set (i := 6) sc_l_law.nd rfl (Or.inl rfl) (pe_ix ix_seq (pe_lst (pa_cons (pe_op op_pow (pe_int) (pe_int)) (pa_cons (pv 5) (pa_cons (pe_op op_sub (pe_un un_neg (pe_int)) (pv 5)) (pa_nil))))) (pe_op op_sub (pe_op op_sub (pv 6) (pv 1)) (pe_int)) (fun _ _ => rfl)))) (pss_nil)) (pss_cons (ps_set (i := 7) sc_l_law.nd rfl (Or.inl rfl) (pe_callB (call_max2 rfl) (by rfl) T.max_ (by decide +kernel) (pa_cons (pv 6) (pa_cons (pe_int) (pa_nil))))) (pss_cons (ps_set (i := 8) sc_l_law.nd rfl (Or.inl rfl) (pe_op op_mod (pe_call G_l_cell_at.ok hr_1 (by rfl) G_l_cell_at.mg G_l_cell_at.kp G_l_cell_at.b .nil (passL) (pa_cons (pv 0) (pa_cons (pe_int) (pa_nil)))) (pe_int))) (pss_cut (ps_if (pt_cmpR (op_eqG hr.units) (pe_op op_mod (pe_op op_fdiv (pe_call G_l_cell_at.ok hr_1 (by rfl) G_l_cell_at.mg G_l_cell_at.kp G_l_cell_at.b .nil (passL) (pa_cons (pv 0) (pa_cons (pe_int) (pa_nil)))) (pe_int)) (pe_int)) (pe_int) (nomark _)) (pss_one (ps_set (i := 8) sc_l_law.nd rfl (Or.inl rfl) (pe_op op_mod (pe_op op_fdiv (pe_call G_l_cell_at.ok hr_1 (by rfl) G_l_cell_at.mg G_l_cell_at.kp G_l_cell_at.b .nil (passL) (pa_cons (pv 0) (pa_cons (pe_int) (pa_nil)))) (pe_int)) (pe_int)))) (pss_nil)) (pss_cons (ps_set (i := 9) sc_l_law.nd rfl (Or.inl rfl) (pe_call G_l_spoilt.ok hr_2 (by rfl) G_l_spoilt.mg G_l_spoilt.kp G_l_spoilt.b .nil (passL) (pa_cons (pe_slice sl_2 (pv 2) (po_some (pv 7)) (po_some (pe_op op_add3 (pv 7) (pv 8)))) (pa_cons (pe_call G_l_cell_at.ok hr_1 (by rfl) G_l_cell_at.mg G_l_cell_at.kp G_l_cell_at.b .nil (passL) (pa_cons (pv 0) (pa_cons (pe_int) (pa_nil)))) (pa_nil))))) (pss_cons (ps_set (i := 10) sc_l_law.nd rfl (Or.inl rfl) (pe_op op_add3 (pv 6) (pe_callB call_lenG (by rfl) T.len_ (by decide +kernel) (pa_cons (pv 9) (pa_nil))))) (pss_cons (ps_set (i := 11) sc_l_law.nd rfl (Or.inl rfl) (pe_and (pe_cmpR op_le (pe_int) (pv 6) (nomark _)) (pe_and (pe_cmpR op_le (pv 10) (pe_callB call_lenG (by rfl) T.len_ (by decide +kernel) (pa_cons (pv 2) (pa_nil))) (nomark _)) (pe_one (pe_cmpR (op_eqG hr.units) (pe_slice sl_2 (pv 2) (po_some (pe_callB (call_max2 rfl) (by rfl) T.max_ (by decide +kernel) (pa_cons (pv 6) (pa_cons (pe_int) (pa_nil))))) (po_some (pe_callB (call_max2 rfl) (by rfl) T.max_ (by decide +kernel) (pa_cons (pv 10) (pa_cons (pe_int) (pa_nil)))))) (pv 9) (nomark _)))))) (pss_cons (ps_set (i := 12) sc_l_law.nd rfl (Or.inl rfl) (pe_bl)) (pss_cons (ps_set (i := 13) sc_l_law.nd rfl (Or.inl rfl) (pe_non)) (pss_cons (ps_try_any rfl rfl takes_none5 (fun W pn xe tk px => pss_one (ps_set (i := 13) sc_l_law.nd rfl (Or.inl rfl) (pe_callS G_done.ok hr_1 (by rfl) G_done.mg G_done.kp G_done.b (fun σ => passAt tk σ) (pa_cons (pv 2) (pa_cons (pe_tup (pa_cons (pv 6) (pa_cons (pv 9) (pa_cons (pv 4) (pa_nil))))) (pa_nil)))))) (.one (clt_one (show Names _ _ _ from ⟨by rfl, by decide, .inl T.eNoFit.mg⟩)) (fun a oe cls d pn hz hf => pss_one (ps_set (i := 12) sc_l_law.nd rfl (Or.inl rfl) (pe_bl))) .nil)) (pss_cons (ps_if (pt_not (pt_val (pv 11))) (pss_one (ps_ret (pe_and (pv 12) (pe_one (pe_call G_l_refused_by_any.ok hr_2 (by rfl) G_l_refused_by_any.mg G_l_refused_by_any.kp G_l_refused_by_any.b .nil (passL) (pa_cons (pv 2) (pa_cons (pe_tup (pa_cons (pv 6) (pa_cons (pv 9) (pa_cons (pv 4) (pa_nil))))) (pa_nil)))))))) (pss_nil)) (pss_one (ps_ret (pe_and (pe_not (pv 12)) (pe_and (pe_callB call_isi (by rfl) T.isinstance_ (by decide +kernel) (pa_cons (pv 13) (pa_cons (pe_bltn (by rfl) T.str_ (by decide +kernel) rfl) (pa_nil)))) (pe_one (pe_cmpR (op_eqG hr.units) (pv 13) (pe_op op_add3 (pe_op op_add3 (pe_slice sl_2 (pv 2) (po_none) (po_some (pv 6))) (pv 4)) (pe_slice sl_2 (pv 2) (po_some (pv 10)) (po_none))) (nomark _))))))))))))))))))))))))))
end
/-! ### the head -/
def dd_done : He.DefD := ⟨("done", none), "done", "done", defArgs s_done, defBody s_done, defScope s_done, [], []⟩
def dd_l_cell_at : He.DefD := ⟨("_law_cell_at", none), "_law_cell_at", "_law_cell_at", defArgs s_l_cell_at, defBody s_l_cell_at, defScope s_l_cell_at, [], []⟩
def dd_l_sign_by : He.DefD := ⟨("_law_sign_by", none), "_law_sign_by", "_law_sign_by", defArgs s_l_sign_by, defBody s_l_sign_by, defScope s_l_sign_by, [], []⟩
def dd_l_text_by : He.DefD := ⟨("_law_text_by", none), "_law_text_by", "_law_text_by", defArgs s_l_text_by, defBody s_l_text_by, defScope s_l_text_by, [], []⟩
def dd_l_spoilt : He.DefD := ⟨("_law_spoilt", none), "_law_spoilt", "_law_spoilt", defArgs s_l_spoilt, defBody s_l_spoilt, defScope s_l_spoilt, [], []⟩
def dd_l_refused_by_any : He.DefD := ⟨("_law_refused_by_any", none), "_law_refused_by_any", "_law_refused_by_any", defArgs s_l_refused_by_any, defBody s_l_refused_by_any, defScope s_l_refused_by_any, [], []⟩
def dd_l_law : He.DefD := ⟨("law", none), "law", "law", defArgs s_l_law, defBody s_l_law, defScope s_l_law, [], []⟩
def fn : List He.DefD := [dd_done, dd_l_cell_at, dd_l_sign_by, dd_l_text_by, dd_l_spoilt, dd_l_refused_by_any, dd_l_law]
def fa : List He.Fa := [.free "ValueError", .free "isinstance", .free "len", .free "max", .free "range", .free "str", .glo "BadBound", .exc "BadBound", .glo "BadRows", .exc "BadRows", .glo "InRing", .exc "InRing", .glo "NoFit", .exc "NoFit", .glo "NoVersion", .exc "NoVersion", .glo "PackError", .exc "PackError", .glo "TooFar", .exc "TooFar", .glo "done", .glo "_law_cell_at", .glo "_law_sign_by", .glo "_law_text_by", .glo "_law_spoilt", .glo "_law_refused_by_any", .glo "law"]
def ex (K : PySem.W.Frag) : Bool := okB ⟨K, 0, He.ga K "BadBound", He.ga K "BadRows", He.ga K "InRing", He.ga K "NoFit", He.ga K "NoVersion", He.ga K "TooFar", He.ga K "PackError"⟩
def loose0 : List Str := ["PackError", "BadBound", "BadRows", "InRing", "NoFit", "NoVersion", "TooFar", "done", "_law_cell_at", "_law_sign_by", "_law_text_by", "_law_spoilt", "_law_refused_by_any"]
def loose : List Str := loose0
abbrev R : PySem.W.OpenRow := PySem.W.OpenLaw.row PySem.Challenge.rw_packdelta_k01_a_change_done
abbrev hk : PySem.W.Hook := hookP 5 fa fn ex
def ob (s : PySem.W.SharedT) : He.AlD × Bool := obsP 5 fa fn ex (HandSHeadRun.getT s)
theorem ob_eq (s : PySem.W.SharedT) : ob s = hk.obs s.abs := obsP_eq (HandSHeadRun.getT_eq s)
theorem run (w : World) : HandSHeadRun.RunEq R (PySem.W.view R.prog [16]) hk ob 4000 loose w := by
  intro os
  open PyProof.Rows in kernel_rfl
abbrev adOf (K : PySem.W.Frag) : Ad := ⟨K, 0, He.ga K "BadBound", He.ga K "BadRows", He.ga K "InRing", He.ga K "NoFit", He.ga K "NoVersion", He.ga K "TooFar", He.ga K "PackError"⟩
theorem facts {P : Program} {w : World} {K : PySem.W.Frag} {h : Heap} {mg : Str → Option Value} {f : Addr} (X : K.In h) (G : h.Ns mainGlobals mg) (hfa : mg ("law" : Str) = some (.ref f)) (c : He.SaysD fa fn K) (cx : ex K = true) :
    ∃ fd : FuncData, (∀ (s : Shared) (v : Value), BindsTo s fd ⟨[v], []⟩ [("_law_script", v)]) ∧ ∀ base : Heap, K.In base → base.Ns mainGlobals mg → FnOk P w K mg base CX0 3 f fd ["_law_script"] (sp_l_law (adOf K)) := by
  obtain ⟨fd_done, F_done⟩ := c.def_ 0 (d := dd_done) rfl
  obtain ⟨fd_l_cell_at, F_l_cell_at⟩ := c.def_ 1 (d := dd_l_cell_at) rfl
  obtain ⟨fd_l_sign_by, F_l_sign_by⟩ := c.def_ 2 (d := dd_l_sign_by) rfl
  obtain ⟨fd_l_text_by, F_l_text_by⟩ := c.def_ 3 (d := dd_l_text_by) rfl
  obtain ⟨fd_l_spoilt, F_l_spoilt⟩ := c.def_ 4 (d := dd_l_spoilt) rfl
  obtain ⟨fd_l_refused_by_any, F_l_refused_by_any⟩ := c.def_ 5 (d := dd_l_refused_by_any) rfl
  obtain ⟨fd_l_law, F_l_law⟩ := c.def_ 6 (d := dd_l_law) rfl
  have e := hfa.symm.trans (He.glo_ok X G (c.fact 26 (f := .glo "law") rfl))
  cases e
  have T : TF (adOf K) mg := ⟨by exact He.free_ok X G (c.fact 0 (f := .free "ValueError") rfl), by exact He.free_ok X G (c.fact 1 (f := .free "isinstance") rfl), by exact He.free_ok X G (c.fact 2 (f := .free "len") rfl), by exact He.free_ok X G (c.fact 3 (f := .free "max") rfl), by exact He.free_ok X G (c.fact 4 (f := .free "range") rfl), by exact He.free_ok X G (c.fact 5 (f := .free "str") rfl), by exact ⟨He.glo_ok X G (c.fact 6 (f := .glo "BadBound") rfl), (He.exc_ok (c.fact 7 (f := .exc "BadBound") rfl)).1, (He.exc_ok (c.fact 7 (f := .exc "BadBound") rfl)).2.1, (He.exc_ok (c.fact 7 (f := .exc "BadBound") rfl)).2.2.1, (He.exc_ok (c.fact 7 (f := .exc "BadBound") rfl)).2.2.2⟩, by exact ⟨He.glo_ok X G (c.fact 8 (f := .glo "BadRows") rfl), (He.exc_ok (c.fact 9 (f := .exc "BadRows") rfl)).1, (He.exc_ok (c.fact 9 (f := .exc "BadRows") rfl)).2.1, (He.exc_ok (c.fact 9 (f := .exc "BadRows") rfl)).2.2.1, (He.exc_ok (c.fact 9 (f := .exc "BadRows") rfl)).2.2.2⟩, by exact ⟨He.glo_ok X G (c.fact 10 (f := .glo "InRing") rfl), (He.exc_ok (c.fact 11 (f := .exc "InRing") rfl)).1, (He.exc_ok (c.fact 11 (f := .exc "InRing") rfl)).2.1, (He.exc_ok (c.fact 11 (f := .exc "InRing") rfl)).2.2.1, (He.exc_ok (c.fact 11 (f := .exc "InRing") rfl)).2.2.2⟩, by exact ⟨He.glo_ok X G (c.fact 12 (f := .glo "NoFit") rfl), (He.exc_ok (c.fact 13 (f := .exc "NoFit") rfl)).1, (He.exc_ok (c.fact 13 (f := .exc "NoFit") rfl)).2.1, (He.exc_ok (c.fact 13 (f := .exc "NoFit") rfl)).2.2.1, (He.exc_ok (c.fact 13 (f := .exc "NoFit") rfl)).2.2.2⟩, by exact ⟨He.glo_ok X G (c.fact 14 (f := .glo "NoVersion") rfl), (He.exc_ok (c.fact 15 (f := .exc "NoVersion") rfl)).1, (He.exc_ok (c.fact 15 (f := .exc "NoVersion") rfl)).2.1, (He.exc_ok (c.fact 15 (f := .exc "NoVersion") rfl)).2.2.1, (He.exc_ok (c.fact 15 (f := .exc "NoVersion") rfl)).2.2.2⟩, by exact ⟨He.glo_ok X G (c.fact 16 (f := .glo "PackError") rfl), (He.exc_ok (c.fact 17 (f := .exc "PackError") rfl)).1, (He.exc_ok (c.fact 17 (f := .exc "PackError") rfl)).2.1, (He.exc_ok (c.fact 17 (f := .exc "PackError") rfl)).2.2.1, (He.exc_ok (c.fact 17 (f := .exc "PackError") rfl)).2.2.2⟩, by exact ⟨He.glo_ok X G (c.fact 18 (f := .glo "TooFar") rfl), (He.exc_ok (c.fact 19 (f := .exc "TooFar") rfl)).1, (He.exc_ok (c.fact 19 (f := .exc "TooFar") rfl)).2.1, (He.exc_ok (c.fact 19 (f := .exc "TooFar") rfl)).2.2.1, (He.exc_ok (c.fact 19 (f := .exc "TooFar") rfl)).2.2.2⟩⟩
  have ok : Okk (adOf K) := okB_ok cx
  have b := FunD.bindsA (ps := ["_law_script"]) F_l_law fun _ _ _ _ _ _ us hl => match us, hl with | [_], _ => rfl
  refine ⟨fd_l_law, fun s v => b s [v] rfl, fun base _ _ => ?_⟩
  have G_done : FnAt P w K mg base "done" 1 a_done (sp_done (adOf K)) _ fd_done := ⟨d_done T  F_done , He.glo_ok X G (c.fact 20 (f := .glo "done") rfl), F_done.kp, FunD.bindsN F_done fun _ _ _ _ _ _ us hl => match us, hl with | [_, _], _ => rfl⟩
  have G_l_cell_at : FnAt P w K mg base "_law_cell_at" 1 a_l_cell_at (sp_l_cell_at (adOf K)) _ fd_l_cell_at := ⟨d_l_cell_at T  F_l_cell_at , He.glo_ok X G (c.fact 21 (f := .glo "_law_cell_at") rfl), F_l_cell_at.kp, FunD.bindsN F_l_cell_at fun _ _ _ _ _ _ us hl => match us, hl with | [_, _], _ => rfl⟩
  have G_l_sign_by : FnAt P w K mg base "_law_sign_by" 1 a_l_sign_by (sp_l_sign_by (adOf K)) _ fd_l_sign_by := ⟨d_l_sign_by T  F_l_sign_by , He.glo_ok X G (c.fact 22 (f := .glo "_law_sign_by") rfl), F_l_sign_by.kp, FunD.bindsN F_l_sign_by fun _ _ _ _ _ _ us hl => match us, hl with | [_], _ => rfl⟩
  have G_l_text_by : FnAt P w K mg base "_law_text_by" 2 a_l_text_by (sp_l_text_by (adOf K)) _ fd_l_text_by := ⟨d_l_text_by T  F_l_text_by G_l_sign_by, He.glo_ok X G (c.fact 23 (f := .glo "_law_text_by") rfl), F_l_text_by.kp, FunD.bindsN F_l_text_by fun _ _ _ _ _ _ us hl => match us, hl with | [_, _], _ => rfl⟩
  have G_l_spoilt : FnAt P w K mg base "_law_spoilt" 2 a_l_spoilt (sp_l_spoilt (adOf K)) _ fd_l_spoilt := ⟨d_l_spoilt T  F_l_spoilt G_l_sign_by, He.glo_ok X G (c.fact 24 (f := .glo "_law_spoilt") rfl), F_l_spoilt.kp, FunD.bindsN F_l_spoilt fun _ _ _ _ _ _ us hl => match us, hl with | [_, _], _ => rfl⟩
  have G_l_refused_by_any : FnAt P w K mg base "_law_refused_by_any" 2 a_l_refused_by_any (sp_l_refused_by_any (adOf K)) _ fd_l_refused_by_any := ⟨d_l_refused_by_any T ok F_l_refused_by_any G_done, He.glo_ok X G (c.fact 25 (f := .glo "_law_refused_by_any") rfl), F_l_refused_by_any.kp, FunD.bindsN F_l_refused_by_any fun _ _ _ _ _ _ us hl => match us, hl with | [_, _], _ => rfl⟩
  exact d_l_law T ok F_l_law G_l_text_by G_l_spoilt G_l_cell_at G_done G_l_refused_by_any
end Pk
open PySem PySem.W PySem.Calls PyProof.Rows
set_option maxHeartbeats 0 in
theorem PySem.Challenge.cw_packdelta_k01_a_change_done_holds : PySem.Challenge.rw_packdelta_k01_a_change_done.Holds := by
  w_on; o_law
  refine HandSHeadRun.head_any (r := OpenLaw.row PySem.Challenge.rw_packdelta_k01_a_change_done) (q := view (OpenLaw.row PySem.Challenge.rw_packdelta_k01_a_change_done).prog [16]) (H := Pk.hk) (ob := Pk.ob) (M := 4000) (loose := Pk.loose)
    (d := HandSHeadRun.topDef (OpenLaw.row PySem.Challenge.rw_packdelta_k01_a_change_done).prog 16) (kwd := []) Pk.ob_eq (by kernel_rfl) (fun s => by kernel_rfl) Pk.run (by kernel_rfl) (by kernel_rfl) (by kernel_rfl) (by rfl)
    (by first | assumption | decide +kernel) (by decide +kernel) ⟨rfl, rfl, rfl, rfl, rfl, by decide +kernel⟩ ?hw ?hc
  case hw => w_witness2
  case hc =>
    refine L2.walk_ofE (l := PySem.Challenge.rw_packdelta_k01_a_change_done) (n := 63) (k := 3) (x := "_law_script") (CX := L2.CX0) rfl (by decide) (by kernel_rfl) ⟨rfl, by decide, by decide⟩ ?F ?cx
    case cx => exact fun _ _ _ _ z => z
    intro w mg fa h Y G hmg0
    obtain ⟨K, KX, c, cx⟩ := Y
    have hmg : mg ("law" : PySem.Str) = some (.ref fa) := by
      have e : (HandSHeadRun.topDef (OpenLaw.row PySem.Challenge.rw_packdelta_k01_a_change_done).prog 16).name = ("law" : PySem.Str) := by kernel_rfl
      rw [← e]
      exact hmg0
    obtain ⟨fd, hb, hF⟩ := Pk.facts (P := (PySem.Challenge.rw_packdelta_k01_a_change_done).prog) (w := w) KX G hmg c cx
    exact ⟨K, fd, Pk.sp_l_law (Pk.adOf K), KX, hb, fun H a ns hl _ hS => Pk.end_law a ns hl hS (fun _ => rfl), hF⟩

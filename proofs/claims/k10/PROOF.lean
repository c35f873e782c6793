import PyProof.Rows.All
import Wide.All
import OpenK.AllK
import Wide.FinOn
import KE.KStateDown
import HandS.DeepEq
import HandS.DictComp
import PyProof.NeKinds
import HandS.ForMost
import HandS.Exc
import HandS.TryOnly
import HandS.ExcOwn
import HandS.WordsExc
import HandS.TryMany
import HandS.IsInst
import HandS.ExcIs
import HandS.More
import HandS.Walk
import HandS.Codes
import HandS.SuiteRaise
import HandS.Defaults
import HandS.HeadHook2
import HandS.Head0
import HandS.Head1
import HandS.Head2
import HandS.HeadEnd
import PySem.Challenge.RW_packdelta_k10_rooted
set_option Elab.async false
set_option linter.all false
set_option maxRecDepth 100000
set_option maxHeartbeats 4000000
/-! PkV: != of two lists whose items are equal, dicts among them. -/
namespace PySem.SeqAt
open AutoSeq1 (wpAny_loadPart')
open MeetsSeq MeetsSeq2 MeetsSeq3 SeqRoads2
/-- two lists stand in the heap, their items equal one by one -/
def PkTwo (prog : Program) (w : World) (l b : Addr) (p q : Array Value) (n m : Nat) (c d : Option Addr) (sp sq : Array (Option Value)) (A : Around) (s : Shared) : Prop :=
  s.heap.get? l = some { cls := .type "list", dict := c, data := .seq p n, slots := sp } ∧ s.heap.get? b = some { cls := .type "list", dict := d, data := .seq q m, slots := sq } ∧
    ∀ j (u : j < p.size) (v : j < q.size), EqP prog w A.in1 s p[j] q[j] true
theorem pk_ne_loop {prog : Program} {w : World} {l b : Addr} {p q : Array Value} {n m : Nat} {c d : Option Addr} {sp sq : Array (Option Value)} (hz : p.size = q.size) : ∀ r i : Nat, p.size - i = r →
    MeetsIn prog w (Builtin.«list.__eq__.loop» ⟨[.ref l, .ref b, rawInt i, rawInt 3], []⟩) (fun A R s => PkTwo prog w l b p q n m c d sp sq A s ∧ R (.ok (.ret (.bool false))) s)
  | 0, i, hr, A, R, s, h => by
    obtain ⟨hp, g, dd, tk, os⟩ := s; obtain ⟨⟨hl, hb, _⟩, h⟩ := h
    wp_walk using wpAny_loadPart' hl, wpAny_loadPart' hb
    rw [show p[((i : Nat) : Int).toNat]? = none by simp; omega, show q[((i : Nat) : Int).toNat]? = none by simp; omega]
    wp_walk using wpAny_loadPart' hl, wpAny_loadPart' hb
    show R (.ok (.ret (.bool (p.size != q.size)))) _
    rw [hz]
    simpa using h
  | r + 1, i, hr, A, R, s, h => by
    obtain ⟨hp, g, dd, tk, os⟩ := s; obtain ⟨⟨hl, hb, he⟩, h⟩ := h
    wp_walk using wpAny_loadPart' hl, wpAny_loadPart' hb
    have lp : i < p.size := by omega
    have lq : i < q.size := by omega
    rw [show p[((i : Nat) : Int).toNat]? = some p[i] by simp [lp], show q[((i : Nat) : Int).toNat]? = some q[i] by simp [lq]]
    refine wpAny_bind (he i lp lq _ _ ?_)
    wp_walk
    rw [show ((i : Int) + 1) = ((i + 1 : Nat) : Int) by push_cast; rfl]
    refine ⟨plainId_quiet plain_eq_loop _, codeAny_builtin entry_eq_loop ?_⟩
    rw [Around.under_plainId plain_eq_loop _]
    exact pk_ne_loop hz r (i + 1) (by omega) A R _ ⟨⟨hl, hb, he⟩, h⟩
theorem pk_ne {prog : Program} {w : World} {l b : Addr} {p q : Array Value} {n m : Nat} {c d : Option Addr} {sp sq : Array (Option Value)} (hz : p.size = q.size) :
    MeetsIn prog w (Builtin.«list.__ne__» ⟨[.ref l, .ref b], []⟩) (fun A R s => PkTwo prog w l b p q n m c d sp sq A s ∧ R (.ok (.ret (.bool false))) s) := fun A R s h => by
  obtain ⟨hp, g, dd, tk, os⟩ := s; obtain ⟨⟨hl, hb, he⟩, h⟩ := h
  have f3 := AutoSeq1.sub_list_list
  have hne : ¬ (p.size != q.size) = true := by simp [hz]
  wp_walk using wpAny_loadPart' hl, wpAny_loadPart' hb
  refine ⟨plainId_quiet plain_eq_loop _, codeAny_builtin entry_eq_loop ?_⟩
  rw [Around.under_plainId plain_eq_loop _]
  exact pk_ne_loop hz _ 0 rfl A R _ ⟨⟨hl, hb, he⟩, h⟩
theorem pk_ne_lists {prog : Program} {w : World} {A : Around} {s : Shared} {l b : Addr} {p q : Array Value} (hl : s.heap.IsList l p) (hb : s.heap.IsList b q) (hz : p.size = q.size) (hu : A.units < cLine)
    (he : ∀ j (u : j < p.size) (v : j < q.size), EqP prog w A.in1 s p[j] q[j] true) (E Q : Value → Shared → Prop) (h : Q (.bool false) s) : wpAny (model prog w) A (richCompare .NotEq (.ref l) (.ref b)) Q E s := by
  obtain ⟨⟨c1, d1, a1, s1⟩, h1, k1, n1, e1⟩ := id hl
  obtain ⟨⟨c2, d2, a2, s2⟩, h2, k2, n2, e2⟩ := id hb
  simp only at k1 e1 k2 e2
  subst k1 e1 k2 e2
  have t1 : s.TypeIs (.ref l) "list" := ⟨_, h1, rfl⟩
  have t2 : s.TypeIs (.ref b) "list" := ⟨_, h2, rfl⟩
  refine wpAny_richCompare_same_room (op := .NotEq) t1 t2 F.slot_list_ne (call_meetsIn F.slot_list_ne t1 F.entry_list_ne (F.args_list_ne_2 _ _) (pk_ne hz) ⟨⟨h1, h2, he⟩, ?_⟩) hu
  exact ⟨(fun x => nomatch x), h⟩
end PySem.SeqAt
namespace L2
open PySem PySem.Spec PyProof.Rows
/-- a != b, two lists whose items are equal -/
def rNeV (K : PySem.W.Frag) : R2 := fun x y H Q => ∃ n, n ≤ 60 ∧ (∃ a b xs ys, x = .ref a ∧ y = .ref b ∧ SqL K H a xs ∧ SqL K H b ys ∧ Paired (EqV K H n) xs ys) ∧ Q (.bl false) H
theorem op_neV {X : Cx} (hu : X.A.units + 64 < cLine) : OpR X (compareOp .NotEq) (rNeV X.K) := by
  intro pins s σ H x y v u Q I rx ry h
  obtain ⟨n, hn, ⟨a, b, xs, ys, rfl, rfl, ha, hb, hp⟩, q⟩ := h
  obtain rfl : v = Value.ref a := rx
  obtain rfl : u = Value.ref b := ry
  obtain ⟨us, r1, p1, _⟩ := I.list ha
  obtain ⟨ws, r2, p2, _⟩ := I.list hb
  have hz : us.toArray.size = ws.toArray.size := by rw [List.size_toArray, List.size_toArray, ← r1.length, ← r2.length]; exact Paired.length hp
  have ih := eqV_run I n X.A.in1 (by show X.A.units + 1 + n < cLine; omega)
  refine SeqAt.pk_ne_lists p1.isList p2.isList hz (by omega) (fun j h1 h2 => ?_) _ _ ⟨.bl false, H, I, rfl, q⟩
  have k := items_run ih hp r1 r2 j (by simpa using h1) (by simpa using h2)
  simpa using k
/-- a != b, two dicts of which one has more keys -/
def rNeDL : R2 := fun x y H Q => ∃ a b ks ls, x = .ref a ∧ y = .ref b ∧ H a = some (.dK ks) ∧ H b = some (.dK ls) ∧ ks.length ≠ ls.length ∧ Q (.bl true) H
theorem op_ne_dictL {X : Cx} (hu : X.A.units < cLine) : OpR X (compareOp .NotEq) rNeDL := by
  intro pins s σ H x y v u Q I rx ry h
  obtain ⟨a, b, ks, ls, rfl, rfl, h1, h2, hn, q⟩ := h
  obtain rfl : v = Value.ref a := rx
  obtain rfl : u = Value.ref b := ry
  obtain ⟨_, y1, v1, r1, d1⟩ := (show ObjOk X.prog X.w H s.heap a (.dK ks) from I.hok a _ h1)
  obtain ⟨_, y2, v2, r2, d2⟩ := (show ObjOk X.prog X.w H s.heap b (.dK ls) from I.hok b _ h2)
  have hl : v1.length ≠ v2.length := by rw [← r1.length, ← r2.length]; exact hn
  exact PySem.W.keq_ne (knd := mixKind X.prog X.w) (r := true) y1 y2 d1 d2 hu (fun e => absurd e hl) (fin_bl I q (by simp [hl]))
end L2
/-! PkA: one lemma for each reading, so that a reading is walked by its head. -/
namespace Pk
open PySem PySem.Spec L2
open C8 (tCut pss_cut)

/-- the addresses that a row's text has, by name -/
structure Ad where
  K : PySem.W.Frag
  cPack : Addr
  cBadBound : Addr
  cBadRows : Addr
  cInRing : Addr
  cNoFit : Addr
  cNoVersion : Addr
  cTooFar : Addr
  cPackError : Addr

/-! ### texts as lists of signs -/
abbrev S (l : List Nat) : Str := ⟨l.toArray⟩
theorem S_len (l : List Nat) : (S l).length = l.length := by simp [Str.length]
theorem S_app (a b : List Nat) : (S a) ++ (S b) = S (a ++ b) := by
  show Str.append (S a) (S b) = _
  simp [Str.append]
theorem S_inj {a b : List Nat} (h : S a = S b) : a = b := by
  have := congrArg (fun s : Str => s.cps.toList) h
  simpa using this
theorem S_of (z : Str) : ∃ l, z = S l := ⟨z.cps.toList, by cases z; simp⟩
/-- signs that there are -/
abbrev Ok (l : List Nat) : Prop := ∀ c ∈ l, c < 1114112
theorem lit (s : String) (n : Nat) (h : (Str.ofString s).length = n) (h2 : ((Str.ofString s).cps.toList.all fun c => decide (c < 1114112)) = true) : ∃ l, Str.ofString s = S l ∧ l.length = n ∧ Ok l := by
  obtain ⟨l, e⟩ := S_of (Str.ofString s)
  refine ⟨l, e, by rw [← S_len, ← e, h], fun c hc => ?_⟩
  rw [e] at h2
  have h3 : ∀ x, x ∈ l → x < 1114112 := by simpa using h2
  exact h3 c hc
theorem S_lit (s : String) (l : List Nat) (h : Str.ofString s = S l) : (Str.ofString s) = S l := h
def cutL (l : List Nat) (lo hi : Option Int) : List Nat := (l.drop (HT.sIx l.length 0 lo)).take (HT.sIx l.length l.length hi - HT.sIx l.length 0 lo)
theorem S_cut (l : List Nat) (lo hi : Option Int) : cutS (S l) lo hi = S (cutL l lo hi) := by
  unfold cutS cutL
  rw [S_len]

/-! ### operators of several kinds -/
def rAdd3 : R2 := fun x y H Q => (∃ i j, x = .int i ∧ y = .int j ∧ Q (.int (i + j)) H) ∨ (∃ i j, x = .str i ∧ y = .str j ∧ i.length + j.length ≤ sizeLine ∧ Q (.str (i ++ j)) H) ∨ rCat x y H Q
theorem op_add3 {X : Cx} : OpR X (binaryOp .Add) rAdd3 := OpR.or op_add (OpR.or op_add_str op_cat)
def rSub : R2 := rI0 fun i j => .int (i - j)
def rMul : R2 := rI CMul fun i j => .int (i * j)
def rDiv : R2 := rI CDiv fun i j => .int (i / j)
def rMod : R2 := rI (fun _ j => 0 < j) fun i j => .int (i % j)
def rPow : R2 := rI CPow fun i j => .int (i ^ j.toNat)
def rNeg : V → Hp → VK → Prop := rU fun i => .int (-i)
def rLt : R2 := rI0 fun i j => .bl (decide (i < j))
def rLe : R2 := rI0 fun i j => .bl (decide (i ≤ j))
def rGt : R2 := rI0 fun i j => .bl (decide (j < i))
def rGe : R2 := rI0 fun i j => .bl (decide (j ≤ i))
def rEqG (K : PySem.W.Frag) : R2 := fun x y H Q => rEq x y H Q ∨ rEqD K x y H Q ∨ rEqDA x y H Q ∨ rEqV K x y H Q
def rNeG (K : PySem.W.Frag) : R2 := fun x y H Q => rNe x y H Q ∨ rNeD K x y H Q ∨ rNeDA x y H Q ∨ rNeV K x y H Q ∨ rNeDL x y H Q
theorem op_eqG {X : Cx} (hu : X.A.units + 64 < cLine) : OpR X (compareOp .Eq) (rEqG X.K) := OpR.or op_eq (OpR.or (op_eqD hu) (OpR.or (op_eq_dictA (by omega)) (op_eqV hu)))
theorem op_neG {X : Cx} (hu : X.A.units + 64 < cLine) : OpR X (compareOp .NotEq) (rNeG X.K) := OpR.or op_ne (OpR.or (op_neD hu) (OpR.or (op_ne_dictA (by omega)) (OpR.or (op_neV hu) (op_ne_dictL (by omega)))))
def rSl2 (K : PySem.W.Frag) : V → Option Int → Option Int → Hp → VK → Prop := fun x lo hi H Q => rSlL K x lo hi H Q ∨ rSlS x lo hi H Q
theorem sl_2 {X : Cx} : SlR X (rSl2 X.K) := SlR.or sl_list sl_str
theorem callR_or {X : Cx} {f : Value} {r r' : List V → Hp → VK → Prop} (h : CallR X f r) (h' : CallR X f r') : CallR X f (fun xs H Q => r xs H Q ∨ r' xs H Q) := by
  intro pins s σ H xs us Q I rv hw
  rcases hw with hw | hw
  · exact h pins s σ H xs us Q I rv hw
  · exact h' pins s σ H xs us Q I rv hw
def rLenG (K : PySem.W.Frag) : List V → Hp → VK → Prop := fun xs H Q => (∃ p ys, xs = [.ref p] ∧ (SqL K H p ys ∨ SqT K H p ys) ∧ Q (.int ys.length) H) ∨ (∃ z, xs = [.str z] ∧ z.length ≤ sizeLine ∧ Q (.int z.length) H) ∨ (∃ a kvs, xs = [V.ref a] ∧ H a = some (.dK kvs) ∧ Q (.int kvs.length) H)
theorem call_lenG {X : Cx} : CallR X (.builtin "len") (rLenG X.K) := callR_or call_len_seq (callR_or call_len_str call_lenD)
def rListG (K : PySem.W.Frag) : List V → Hp → VK → Prop := fun xs H Q => (∃ p ys, xs = [.ref p] ∧ (SqL K H p ys ∨ SqT K H p ys) ∧ ∀ l, H l = none → Q (.ref l) (upd H l (.lst ys))) ∨ (∃ (a : Addr) (kvs : List (Key × V)), xs = [.ref a] ∧ Rd H a (.dK kvs) ∧ ∀ p, H p = none → Q (.ref p) (upd H p (.lst (kvs.map fun kv => kV kv.1))))
theorem call_listG {X : Cx} (hc : X.calm = true) : CallR X (.type "list") (rListG X.K) := callR_or call_list_of (call_listD hc)
def rDictD : List V → Hp → VK → Prop := fun xs H Q => ∃ (a : Addr) (kvs : List (Key × V)), xs = [.ref a] ∧ Rd H a (.dK kvs) ∧ ∀ p, H p = none → Q (.ref p) (upd H p (.dK kvs))
def rSortedDI : List V → Hp → VK → Prop := fun xs H Q => ∃ (a : Addr) (kvs : List (Key × V)) (ks : List Int), xs = [.ref a] ∧ Rd H a (.dK kvs) ∧ kvs.map (·.1) = ks.map Sum.inl ∧ ks.length < 64 ∧ ∀ (ys : List Int) (p : Addr), ys.Perm ks → ys.Pairwise (· ≤ ·) → H p = none → Q (.ref p) (upd H p (.lst (ys.map V.int)))
def rStrI : List V → Hp → VK → Prop := fun xs H Q => ∃ i, xs = [.int i] ∧ i.natAbs.log2 < 1920 ∧ Q (.str (toString i)) H
def rInt1 : List V → Hp → VK → Prop := fun xs H Q => (∃ i, xs = [.int i] ∧ Q (.int i) H) ∨ ∃ k, xs = [.bl k] ∧ Q (.int (if k then 1 else 0)) H
def rMax2 : List V → Hp → VK → Prop := fun xs H Q => ∃ i j, xs = [.int i, .int j] ∧ Q (.int (if j > i then j else i)) H
def rMin2 : List V → Hp → VK → Prop := fun xs H Q => ∃ i j, xs = [.int i, .int j] ∧ Q (.int (if j < i then j else i)) H
def rJoin (K : PySem.W.Frag) : V → List V → Hp → VK → Prop := fun x xs H Q => ∃ a p, ∃ ys : List Str, x = .str a ∧ xs = [.ref p] ∧ (SqL K H p (ys.map V.str) ∨ SqT K H p (ys.map V.str)) ∧ (ys.map (·.length)).sum + ys.length * a.length ≤ 16777216 ∧ Q (.str (Txt.join a ys)) H
def tRaise (C : Addr) (E : XK) : TS := fun _ _ H => E (.ref C) none H

/-! ### readings by their heads; the ends in the form ⟨nx, rt, bk, ct⟩ -/
section
variable {t u : TS} {nx : St → Hp → Prop} {rt : VK} {bk ct : St → Hp → Prop} {σ : St} {H : Hp} {te ta tb : TE} {g : TG} {tt tu : TT} {Q : VK} {QB : Bool → Hp → Prop} {QA : List V → Hp → Prop}
theorem r_seq (h : t ⟨u ⟨nx, rt, bk, ct⟩, rt, bk, ct⟩ σ H) : tSeq t u ⟨nx, rt, bk, ct⟩ σ H := h
theorem r_cut (Mid : St → Hp → Prop) (h : t ⟨Mid, rt, bk, ct⟩ σ H) (h2 : ∀ σ' H', Mid σ' H' → u ⟨nx, rt, bk, ct⟩ σ' H') : tCut t u ⟨nx, rt, bk, ct⟩ σ H := ⟨Mid, h, h2⟩
theorem r_seqD {D : Ends} (h : t ⟨u D, D.rt, D.bk, D.ct⟩ σ H) : tSeq t u D σ H := h
theorem r_next (h : nx σ H) : tNext ⟨nx, rt, bk, ct⟩ σ H := h
theorem r_brk (h : bk σ H) : tBreak ⟨nx, rt, bk, ct⟩ σ H := h
theorem r_asg (h : te σ H fun x H1 => g x σ H1 nx) : tAsg te g ⟨nx, rt, bk, ct⟩ σ H := h
theorem r_drop (h : te σ H fun _ H1 => nx σ H1) : tDrop te ⟨nx, rt, bk, ct⟩ σ H := h
theorem r_ret (h : te σ H rt) : tRet te ⟨nx, rt, bk, ct⟩ σ H := h
theorem r_ifS (h : tt σ H fun b H1 => if b = true then t ⟨nx, rt, bk, ct⟩ σ H1 else u ⟨nx, rt, bk, ct⟩ σ H1) : tIfS tt t u ⟨nx, rt, bk, ct⟩ σ H := h
theorem r_ite {b : Bool} {A B : Prop} (h1 : b = true → A) (h2 : b = false → B) : if b = true then A else B := by
  cases b
  · rw [if_neg Bool.false_ne_true]; exact h2 rfl
  · rw [if_pos rfl]; exact h1 rfl
theorem r_dec {p : Prop} [Decidable p] {A B : Prop} (h1 : p → A) (h2 : ¬ p → B) : if decide p = true then A else B := by
  by_cases h : p
  · rw [decide_eq_true h, if_pos rfl]; exact h1 h
  · rw [decide_eq_false h, if_neg Bool.false_ne_true]; exact h2 h
theorem r_ndec {p : Prop} [Decidable p] {A B : Prop} (h1 : ¬ p → A) (h2 : p → B) : if (!decide p) = true then A else B := by
  by_cases h : p
  · rw [decide_eq_true h]; exact h2 h
  · rw [decide_eq_false h]; exact h1 h
theorem r_nT {A B : Prop} (h : B) : if (!true) = true then A else B := by
  rw [if_neg (by decide)]; exact h
theorem r_nF {A B : Prop} (h : A) : if (!false) = true then A else B := by
  rw [if_pos (by decide)]; exact h
theorem r_raise {C : Addr} {E : XK} {D : Ends} (h : E (.ref C) none H) : tRaise C E D σ H := h
/-! tests -/
theorem r_test (h : te σ H fun x H' => ∃ k, x = .bl k ∧ QB k H') : tTest te σ H QB := h
theorem r_B (h : te σ H fun x H1 => ∃ c, x = .bl c ∧ QB c H1) : tB te σ H QB := h
theorem r_bl {b : Bool} (h : QB b H) : ∃ k, V.bl b = .bl k ∧ QB k H := ⟨b, rfl, h⟩
theorem r_and (h : tt σ H fun c H1 => if c = true then tu σ H1 QB else QB false H1) : tAnd tt tu σ H QB := h
theorem r_or (h : tt σ H fun c H1 => if c = true then QB true H1 else tu σ H1 QB) : tOr tt tu σ H QB := h
theorem r_not (h : tt σ H fun c H1 => QB (!c) H1) : tNot tt σ H QB := h
theorem r_isN (h : ta σ H fun x H1 => Q (.bl (decide (x = .non))) H1) : tIsN ta σ H Q := h
theorem r_notN (h : ta σ H fun x H1 => Q (.bl (!decide (x = .non))) H1) : tNotN ta σ H Q := h
/-! values -/
theorem r_var {i : Nat} {v : V} (e : σ[i]? = some (some v)) (h : Q v H) : tVar i σ H Q := ⟨v, e, h⟩
theorem r_c {v : V} (h : Q v H) : tC v σ H Q := h
theorem r_op {r : R2} (h : ta σ H fun x H1 => tb σ H1 fun y H2 => r x y H2 Q) : tOp r ta tb σ H Q := h
theorem r_un {r : V → Hp → VK → Prop} (h : ta σ H fun x H1 => r x H1 Q) : tUn r ta σ H Q := h
theorem r_nil (h : QA [] H) : tNil σ H QA := h
theorem r_cons {tr : TA} (h : ta σ H fun x H1 => tr σ H1 fun xs H2 => QA (x :: xs) H2) : tCons ta tr σ H QA := h
theorem r_andV (h : ta σ H fun x H1 => ∃ c, x = .bl c ∧ if c = true then tb σ H1 Q else Q (.bl false) H1) : tAndV ta tb σ H Q := h
theorem r_orV (h : ta σ H fun x H1 => ∃ c, x = .bl c ∧ if c = true then Q (.bl true) H1 else tb σ H1 Q) : tOrV ta tb σ H Q := h
theorem r_notV (h : ta σ H fun x H1 => ∃ c, x = .bl c ∧ Q (.bl (!c)) H1) : tNotV ta σ H Q := h
theorem r_ifE (h : tt σ H fun c H1 => if c = true then ta σ H1 Q else tb σ H1 Q) : tIf tt ta tb σ H Q := h
theorem r_blP {b : Bool} {P : Bool → Prop} (h : P b) : ∃ c, V.bl b = .bl c ∧ P c := ⟨b, rfl, h⟩
/-! stores to slots -/
theorem r_set {i : Nat} {v : V} {σ' : St} {K : St → Hp → Prop} (e : σ.set i (some v) = σ') (h : K σ' H) : gName i v σ H K := by
  show K (σ.set i (some v)) H
  rw [e]
  exact h
theorem r_v0 {v : V} {t : St} (h : Q v H) : tVar 0 (some v :: t) H Q := ⟨v, rfl, h⟩
theorem r_n0 {y : Option V} {v : V} {t : St} {F : St → Hp → Prop} (h : F (some v :: t) H) : gName 0 v (y :: t) H F := h
theorem r_v1 {x0 : Option V} {v : V} {t : St} (h : Q v H) : tVar 1 (x0 :: some v :: t) H Q := ⟨v, rfl, h⟩
theorem r_n1 {x0 : Option V} {y : Option V} {v : V} {t : St} {F : St → Hp → Prop} (h : F (x0 :: some v :: t) H) : gName 1 v (x0 :: y :: t) H F := h
theorem r_v2 {x0 x1 : Option V} {v : V} {t : St} (h : Q v H) : tVar 2 (x0 :: x1 :: some v :: t) H Q := ⟨v, rfl, h⟩
theorem r_n2 {x0 x1 : Option V} {y : Option V} {v : V} {t : St} {F : St → Hp → Prop} (h : F (x0 :: x1 :: some v :: t) H) : gName 2 v (x0 :: x1 :: y :: t) H F := h
theorem r_v3 {x0 x1 x2 : Option V} {v : V} {t : St} (h : Q v H) : tVar 3 (x0 :: x1 :: x2 :: some v :: t) H Q := ⟨v, rfl, h⟩
theorem r_n3 {x0 x1 x2 : Option V} {y : Option V} {v : V} {t : St} {F : St → Hp → Prop} (h : F (x0 :: x1 :: x2 :: some v :: t) H) : gName 3 v (x0 :: x1 :: x2 :: y :: t) H F := h
theorem r_v4 {x0 x1 x2 x3 : Option V} {v : V} {t : St} (h : Q v H) : tVar 4 (x0 :: x1 :: x2 :: x3 :: some v :: t) H Q := ⟨v, rfl, h⟩
theorem r_n4 {x0 x1 x2 x3 : Option V} {y : Option V} {v : V} {t : St} {F : St → Hp → Prop} (h : F (x0 :: x1 :: x2 :: x3 :: some v :: t) H) : gName 4 v (x0 :: x1 :: x2 :: x3 :: y :: t) H F := h
theorem r_v5 {x0 x1 x2 x3 x4 : Option V} {v : V} {t : St} (h : Q v H) : tVar 5 (x0 :: x1 :: x2 :: x3 :: x4 :: some v :: t) H Q := ⟨v, rfl, h⟩
theorem r_n5 {x0 x1 x2 x3 x4 : Option V} {y : Option V} {v : V} {t : St} {F : St → Hp → Prop} (h : F (x0 :: x1 :: x2 :: x3 :: x4 :: some v :: t) H) : gName 5 v (x0 :: x1 :: x2 :: x3 :: x4 :: y :: t) H F := h
theorem r_v6 {x0 x1 x2 x3 x4 x5 : Option V} {v : V} {t : St} (h : Q v H) : tVar 6 (x0 :: x1 :: x2 :: x3 :: x4 :: x5 :: some v :: t) H Q := ⟨v, rfl, h⟩
theorem r_n6 {x0 x1 x2 x3 x4 x5 : Option V} {y : Option V} {v : V} {t : St} {F : St → Hp → Prop} (h : F (x0 :: x1 :: x2 :: x3 :: x4 :: x5 :: some v :: t) H) : gName 6 v (x0 :: x1 :: x2 :: x3 :: x4 :: x5 :: y :: t) H F := h
theorem r_v7 {x0 x1 x2 x3 x4 x5 x6 : Option V} {v : V} {t : St} (h : Q v H) : tVar 7 (x0 :: x1 :: x2 :: x3 :: x4 :: x5 :: x6 :: some v :: t) H Q := ⟨v, rfl, h⟩
theorem r_n7 {x0 x1 x2 x3 x4 x5 x6 : Option V} {y : Option V} {v : V} {t : St} {F : St → Hp → Prop} (h : F (x0 :: x1 :: x2 :: x3 :: x4 :: x5 :: x6 :: some v :: t) H) : gName 7 v (x0 :: x1 :: x2 :: x3 :: x4 :: x5 :: x6 :: y :: t) H F := h
theorem r_v8 {x0 x1 x2 x3 x4 x5 x6 x7 : Option V} {v : V} {t : St} (h : Q v H) : tVar 8 (x0 :: x1 :: x2 :: x3 :: x4 :: x5 :: x6 :: x7 :: some v :: t) H Q := ⟨v, rfl, h⟩
theorem r_n8 {x0 x1 x2 x3 x4 x5 x6 x7 : Option V} {y : Option V} {v : V} {t : St} {F : St → Hp → Prop} (h : F (x0 :: x1 :: x2 :: x3 :: x4 :: x5 :: x6 :: x7 :: some v :: t) H) : gName 8 v (x0 :: x1 :: x2 :: x3 :: x4 :: x5 :: x6 :: x7 :: y :: t) H F := h
theorem r_v9 {x0 x1 x2 x3 x4 x5 x6 x7 x8 : Option V} {v : V} {t : St} (h : Q v H) : tVar 9 (x0 :: x1 :: x2 :: x3 :: x4 :: x5 :: x6 :: x7 :: x8 :: some v :: t) H Q := ⟨v, rfl, h⟩
theorem r_n9 {x0 x1 x2 x3 x4 x5 x6 x7 x8 : Option V} {y : Option V} {v : V} {t : St} {F : St → Hp → Prop} (h : F (x0 :: x1 :: x2 :: x3 :: x4 :: x5 :: x6 :: x7 :: x8 :: some v :: t) H) : gName 9 v (x0 :: x1 :: x2 :: x3 :: x4 :: x5 :: x6 :: x7 :: x8 :: y :: t) H F := h
theorem r_v10 {x0 x1 x2 x3 x4 x5 x6 x7 x8 x9 : Option V} {v : V} {t : St} (h : Q v H) : tVar 10 (x0 :: x1 :: x2 :: x3 :: x4 :: x5 :: x6 :: x7 :: x8 :: x9 :: some v :: t) H Q := ⟨v, rfl, h⟩
theorem r_n10 {x0 x1 x2 x3 x4 x5 x6 x7 x8 x9 : Option V} {y : Option V} {v : V} {t : St} {F : St → Hp → Prop} (h : F (x0 :: x1 :: x2 :: x3 :: x4 :: x5 :: x6 :: x7 :: x8 :: x9 :: some v :: t) H) : gName 10 v (x0 :: x1 :: x2 :: x3 :: x4 :: x5 :: x6 :: x7 :: x8 :: x9 :: y :: t) H F := h
theorem r_v11 {x0 x1 x2 x3 x4 x5 x6 x7 x8 x9 x10 : Option V} {v : V} {t : St} (h : Q v H) : tVar 11 (x0 :: x1 :: x2 :: x3 :: x4 :: x5 :: x6 :: x7 :: x8 :: x9 :: x10 :: some v :: t) H Q := ⟨v, rfl, h⟩
theorem r_n11 {x0 x1 x2 x3 x4 x5 x6 x7 x8 x9 x10 : Option V} {y : Option V} {v : V} {t : St} {F : St → Hp → Prop} (h : F (x0 :: x1 :: x2 :: x3 :: x4 :: x5 :: x6 :: x7 :: x8 :: x9 :: x10 :: some v :: t) H) : gName 11 v (x0 :: x1 :: x2 :: x3 :: x4 :: x5 :: x6 :: x7 :: x8 :: x9 :: x10 :: y :: t) H F := h
theorem r_v12 {x0 x1 x2 x3 x4 x5 x6 x7 x8 x9 x10 x11 : Option V} {v : V} {t : St} (h : Q v H) : tVar 12 (x0 :: x1 :: x2 :: x3 :: x4 :: x5 :: x6 :: x7 :: x8 :: x9 :: x10 :: x11 :: some v :: t) H Q := ⟨v, rfl, h⟩
theorem r_n12 {x0 x1 x2 x3 x4 x5 x6 x7 x8 x9 x10 x11 : Option V} {y : Option V} {v : V} {t : St} {F : St → Hp → Prop} (h : F (x0 :: x1 :: x2 :: x3 :: x4 :: x5 :: x6 :: x7 :: x8 :: x9 :: x10 :: x11 :: some v :: t) H) : gName 12 v (x0 :: x1 :: x2 :: x3 :: x4 :: x5 :: x6 :: x7 :: x8 :: x9 :: x10 :: x11 :: y :: t) H F := h
theorem r_v13 {x0 x1 x2 x3 x4 x5 x6 x7 x8 x9 x10 x11 x12 : Option V} {v : V} {t : St} (h : Q v H) : tVar 13 (x0 :: x1 :: x2 :: x3 :: x4 :: x5 :: x6 :: x7 :: x8 :: x9 :: x10 :: x11 :: x12 :: some v :: t) H Q := ⟨v, rfl, h⟩
theorem r_n13 {x0 x1 x2 x3 x4 x5 x6 x7 x8 x9 x10 x11 x12 : Option V} {y : Option V} {v : V} {t : St} {F : St → Hp → Prop} (h : F (x0 :: x1 :: x2 :: x3 :: x4 :: x5 :: x6 :: x7 :: x8 :: x9 :: x10 :: x11 :: x12 :: some v :: t) H) : gName 13 v (x0 :: x1 :: x2 :: x3 :: x4 :: x5 :: x6 :: x7 :: x8 :: x9 :: x10 :: x11 :: x12 :: y :: t) H F := h
theorem r_v14 {x0 x1 x2 x3 x4 x5 x6 x7 x8 x9 x10 x11 x12 x13 : Option V} {v : V} {t : St} (h : Q v H) : tVar 14 (x0 :: x1 :: x2 :: x3 :: x4 :: x5 :: x6 :: x7 :: x8 :: x9 :: x10 :: x11 :: x12 :: x13 :: some v :: t) H Q := ⟨v, rfl, h⟩
theorem r_n14 {x0 x1 x2 x3 x4 x5 x6 x7 x8 x9 x10 x11 x12 x13 : Option V} {y : Option V} {v : V} {t : St} {F : St → Hp → Prop} (h : F (x0 :: x1 :: x2 :: x3 :: x4 :: x5 :: x6 :: x7 :: x8 :: x9 :: x10 :: x11 :: x12 :: x13 :: some v :: t) H) : gName 14 v (x0 :: x1 :: x2 :: x3 :: x4 :: x5 :: x6 :: x7 :: x8 :: x9 :: x10 :: x11 :: x12 :: x13 :: y :: t) H F := h
theorem r_v15 {x0 x1 x2 x3 x4 x5 x6 x7 x8 x9 x10 x11 x12 x13 x14 : Option V} {v : V} {t : St} (h : Q v H) : tVar 15 (x0 :: x1 :: x2 :: x3 :: x4 :: x5 :: x6 :: x7 :: x8 :: x9 :: x10 :: x11 :: x12 :: x13 :: x14 :: some v :: t) H Q := ⟨v, rfl, h⟩
theorem r_n15 {x0 x1 x2 x3 x4 x5 x6 x7 x8 x9 x10 x11 x12 x13 x14 : Option V} {y : Option V} {v : V} {t : St} {F : St → Hp → Prop} (h : F (x0 :: x1 :: x2 :: x3 :: x4 :: x5 :: x6 :: x7 :: x8 :: x9 :: x10 :: x11 :: x12 :: x13 :: x14 :: some v :: t) H) : gName 15 v (x0 :: x1 :: x2 :: x3 :: x4 :: x5 :: x6 :: x7 :: x8 :: x9 :: x10 :: x11 :: x12 :: x13 :: x14 :: y :: t) H F := h
theorem r_v16 {x0 x1 x2 x3 x4 x5 x6 x7 x8 x9 x10 x11 x12 x13 x14 x15 : Option V} {v : V} {t : St} (h : Q v H) : tVar 16 (x0 :: x1 :: x2 :: x3 :: x4 :: x5 :: x6 :: x7 :: x8 :: x9 :: x10 :: x11 :: x12 :: x13 :: x14 :: x15 :: some v :: t) H Q := ⟨v, rfl, h⟩
theorem r_n16 {x0 x1 x2 x3 x4 x5 x6 x7 x8 x9 x10 x11 x12 x13 x14 x15 : Option V} {y : Option V} {v : V} {t : St} {F : St → Hp → Prop} (h : F (x0 :: x1 :: x2 :: x3 :: x4 :: x5 :: x6 :: x7 :: x8 :: x9 :: x10 :: x11 :: x12 :: x13 :: x14 :: x15 :: some v :: t) H) : gName 16 v (x0 :: x1 :: x2 :: x3 :: x4 :: x5 :: x6 :: x7 :: x8 :: x9 :: x10 :: x11 :: x12 :: x13 :: x14 :: x15 :: y :: t) H F := h
theorem r_v17 {x0 x1 x2 x3 x4 x5 x6 x7 x8 x9 x10 x11 x12 x13 x14 x15 x16 : Option V} {v : V} {t : St} (h : Q v H) : tVar 17 (x0 :: x1 :: x2 :: x3 :: x4 :: x5 :: x6 :: x7 :: x8 :: x9 :: x10 :: x11 :: x12 :: x13 :: x14 :: x15 :: x16 :: some v :: t) H Q := ⟨v, rfl, h⟩
theorem r_n17 {x0 x1 x2 x3 x4 x5 x6 x7 x8 x9 x10 x11 x12 x13 x14 x15 x16 : Option V} {y : Option V} {v : V} {t : St} {F : St → Hp → Prop} (h : F (x0 :: x1 :: x2 :: x3 :: x4 :: x5 :: x6 :: x7 :: x8 :: x9 :: x10 :: x11 :: x12 :: x13 :: x14 :: x15 :: x16 :: some v :: t) H) : gName 17 v (x0 :: x1 :: x2 :: x3 :: x4 :: x5 :: x6 :: x7 :: x8 :: x9 :: x10 :: x11 :: x12 :: x13 :: x14 :: x15 :: x16 :: y :: t) H F := h
theorem r_v18 {x0 x1 x2 x3 x4 x5 x6 x7 x8 x9 x10 x11 x12 x13 x14 x15 x16 x17 : Option V} {v : V} {t : St} (h : Q v H) : tVar 18 (x0 :: x1 :: x2 :: x3 :: x4 :: x5 :: x6 :: x7 :: x8 :: x9 :: x10 :: x11 :: x12 :: x13 :: x14 :: x15 :: x16 :: x17 :: some v :: t) H Q := ⟨v, rfl, h⟩
theorem r_n18 {x0 x1 x2 x3 x4 x5 x6 x7 x8 x9 x10 x11 x12 x13 x14 x15 x16 x17 : Option V} {y : Option V} {v : V} {t : St} {F : St → Hp → Prop} (h : F (x0 :: x1 :: x2 :: x3 :: x4 :: x5 :: x6 :: x7 :: x8 :: x9 :: x10 :: x11 :: x12 :: x13 :: x14 :: x15 :: x16 :: x17 :: some v :: t) H) : gName 18 v (x0 :: x1 :: x2 :: x3 :: x4 :: x5 :: x6 :: x7 :: x8 :: x9 :: x10 :: x11 :: x12 :: x13 :: x14 :: x15 :: x16 :: x17 :: y :: t) H F := h
theorem r_v19 {x0 x1 x2 x3 x4 x5 x6 x7 x8 x9 x10 x11 x12 x13 x14 x15 x16 x17 x18 : Option V} {v : V} {t : St} (h : Q v H) : tVar 19 (x0 :: x1 :: x2 :: x3 :: x4 :: x5 :: x6 :: x7 :: x8 :: x9 :: x10 :: x11 :: x12 :: x13 :: x14 :: x15 :: x16 :: x17 :: x18 :: some v :: t) H Q := ⟨v, rfl, h⟩
theorem r_n19 {x0 x1 x2 x3 x4 x5 x6 x7 x8 x9 x10 x11 x12 x13 x14 x15 x16 x17 x18 : Option V} {y : Option V} {v : V} {t : St} {F : St → Hp → Prop} (h : F (x0 :: x1 :: x2 :: x3 :: x4 :: x5 :: x6 :: x7 :: x8 :: x9 :: x10 :: x11 :: x12 :: x13 :: x14 :: x15 :: x16 :: x17 :: x18 :: some v :: t) H) : gName 19 v (x0 :: x1 :: x2 :: x3 :: x4 :: x5 :: x6 :: x7 :: x8 :: x9 :: x10 :: x11 :: x12 :: x13 :: x14 :: x15 :: x16 :: x17 :: x18 :: y :: t) H F := h
/-! operators -/
theorem r_add {i j : Int} (h : Q (.int (i + j)) H) : rAdd3 (.int i) (.int j) H Q := .inl ⟨i, j, rfl, rfl, h⟩
theorem r_addS {a b : List Nat} (hl : a.length + b.length ≤ sizeLine) (h : Q (.str (S (a ++ b))) H) : rAdd3 (.str (S a)) (.str (S b)) H Q :=
  .inr (.inl ⟨_, _, rfl, rfl, by rw [S_len, S_len]; exact hl, by rw [S_app]; exact h⟩)
theorem r_sub {i j : Int} (h : Q (.int (i - j)) H) : rSub (.int i) (.int j) H Q := ⟨i, j, rfl, rfl, h⟩
theorem r_mulL {i j : Int} (h1 : -(2 ^ 64) < i ∧ i < 2 ^ 64) (h : Q (.int (i * j)) H) : rMul (.int i) (.int j) H Q := ⟨i, j, rfl, rfl, .inl h1, h⟩
theorem r_mulR {i j : Int} (h1 : -(2 ^ 64) < j ∧ j < 2 ^ 64) (h : Q (.int (i * j)) H) : rMul (.int i) (.int j) H Q := ⟨i, j, rfl, rfl, .inr h1, h⟩
theorem r_div {i j : Int} (h1 : 0 < j ∧ j < 1073741824) (h : Q (.int (i / j)) H) : rDiv (.int i) (.int j) H Q := ⟨i, j, rfl, rfl, h1, h⟩
theorem r_mod {i j : Int} (h1 : 0 < j) (h : Q (.int (i % j)) H) : rMod (.int i) (.int j) H Q := ⟨i, j, rfl, rfl, h1, h⟩
theorem r_pow {i j : Int} (h1 : 0 ≤ j ∧ j ≤ 1000000 ∧ i.natAbs < 2 ^ 64) (h : Q (.int (i ^ j.toNat)) H) : rPow (.int i) (.int j) H Q := ⟨i, j, rfl, rfl, h1, h⟩
theorem r_neg {i : Int} (h : Q (.int (-i)) H) : rNeg (.int i) H Q := ⟨i, rfl, h⟩
theorem r_lt {i j : Int} (h : Q (.bl (decide (i < j))) H) : rLt (.int i) (.int j) H Q := ⟨i, j, rfl, rfl, h⟩
theorem r_le {i j : Int} (h : Q (.bl (decide (i ≤ j))) H) : rLe (.int i) (.int j) H Q := ⟨i, j, rfl, rfl, h⟩
theorem r_gt {i j : Int} (h : Q (.bl (decide (j < i))) H) : rGt (.int i) (.int j) H Q := ⟨i, j, rfl, rfl, h⟩
theorem r_ge {i j : Int} (h : Q (.bl (decide (j ≤ i))) H) : rGe (.int i) (.int j) H Q := ⟨i, j, rfl, rfl, h⟩
variable {K : PySem.W.Frag}
theorem dec_int (i j : Int) : decide (V.int i = V.int j) = decide (i = j) := by
  by_cases e : i = j
  · rw [decide_eq_true e, decide_eq_true (congrArg V.int e)]
  · rw [decide_eq_false e, decide_eq_false fun q => e (V.int.inj q)]
theorem dec_str (a b : List Nat) : decide (V.str (S a) = V.str (S b)) = decide (a = b) := by
  by_cases e : a = b
  · rw [decide_eq_true e, decide_eq_true (by rw [e])]
  · rw [decide_eq_false e, decide_eq_false fun q => e (S_inj (V.str.inj q))]
theorem r_eqI {i j : Int} (h : Q (.bl (decide (i = j))) H) : rEqG K (.int i) (.int j) H Q := .inl ⟨rfl, by rw [dec_int]; exact h⟩
theorem r_eqS {a b : List Nat} (h : Q (.bl (decide (a = b))) H) : rEqG K (.str (S a)) (.str (S b)) H Q := .inl ⟨rfl, by rw [dec_str]; exact h⟩
theorem r_neI {i j : Int} (h : Q (.bl (!decide (i = j))) H) : rNeG K (.int i) (.int j) H Q := .inl ⟨rfl, by rw [dec_int]; exact h⟩
theorem r_neS {a b : List Nat} (h : Q (.bl (!decide (a = b))) H) : rNeG K (.str (S a)) (.str (S b)) H Q := .inl ⟨rfl, by rw [dec_str]; exact h⟩
theorem r_eqV {x y : V} (hs : scal x y = true) (h : Q (.bl (decide (x = y))) H) : rEqG K x y H Q := .inl ⟨hs, h⟩
theorem r_neV {x y : V} (hs : scal x y = true) (h : Q (.bl (!decide (x = y))) H) : rNeG K x y H Q := .inl ⟨hs, h⟩
theorem r_eqD {x y : V} (d e : PyData) (h1 : Dp K H x d) (h2 : Dp K H y e) (s1 : SeqAt.shaped d = true) (s2 : SeqAt.shaped e = true) (h : Q (.bl (PyData.eqv d e)) H) : rEqG K x y H Q := .inr (.inl ⟨d, e, h1, h2, s1, s2, h⟩)
theorem r_neL {x y : V} {n : Nat} (hn : n ≤ 60) {a b : Addr} {xs ys : List V} (ex : x = .ref a) (ey : y = .ref b) (ha : SqL K H a xs) (hb : SqL K H b ys) (hp : Paired (EqV K H n) xs ys) (h : Q (.bl false) H) : rNeG K x y H Q := .inr (.inr (.inr (.inl ⟨n, hn, ⟨a, b, xs, ys, ex, ey, ha, hb, hp⟩, h⟩)))
theorem r_neDL {a b : Addr} {ks ls : List (Key × V)} (ha : H a = some (.dK ks)) (hb : H b = some (.dK ls)) (hn : ks.length ≠ ls.length) (h : Q (.bl true) H) : rNeG K (.ref a) (.ref b) H Q := .inr (.inr (.inr (.inr ⟨a, b, ks, ls, rfl, rfl, ha, hb, hn, h⟩)))
theorem r_neD0 {a b : Addr} (ha : H a = some (.dK [])) (hb : H b = some (.dK [])) (h : Q (.bl false) H) : rNeG K (.ref a) (.ref b) H Q := .inr (.inr (.inl ⟨a, b, [], [], rfl, rfl, ha, hb, rfl, (fun p hp => by cases hp), h⟩))
theorem r_neD {x y : V} (d e : PyData) (h1 : Dp K H x d) (h2 : Dp K H y e) (s1 : SeqAt.shaped d = true) (s2 : SeqAt.shaped e = true) (h : Q (.bl (!PyData.eqv d e)) H) : rNeG K x y H Q := .inr (.inl ⟨d, e, h1, h2, s1, s2, h⟩)
/-! slices, items -/
theorem r_sl {r : V → Option Int → Option Int → Hp → VK → Prop} {tl th : TO} (h : te σ H fun x H1 => tl σ H1 fun l H2 => th σ H2 fun v H3 => r x l v H3 Q) : tSl r te tl th σ H Q := h
theorem r_noPart {QO : Option Int → Hp → Prop} (h : QO none H) : tNoPart σ H QO := h
theorem r_part {QO : Option Int → Hp → Prop} (h : te σ H fun x H1 => ∃ i, x = .int i ∧ QO (some i) H1) : tPart te σ H QO := h
theorem r_int {i : Int} {P : Int → Prop} (h : P i) : ∃ k, V.int i = .int k ∧ P k := ⟨i, rfl, h⟩
theorem r_slS {a : List Nat} {lo hi : Option Int} (hl : a.length ≤ sizeLine) (h : Q (.str (S (cutL a lo hi))) H) : rSl2 K (.str (S a)) lo hi H Q :=
  .inr ⟨_, rfl, by rw [S_len]; exact hl, by rw [S_cut]; exact h⟩
theorem r_ixL {p : Addr} {xs : List V} {i : Int} {v : V} (hs : SqL K H p xs) (ha : atI xs i = some v) (h : Q v H) : rIx K (.ref p) (.int i) H Q := .inl ⟨p, xs, i, v, rfl, rfl, hs, ha, h⟩
theorem r_ixT {p : Addr} {xs : List V} {i : Int} {v : V} (hs : SqT K H p xs) (ha : atI xs i = some v) (h : Q v H) : rIx K (.ref p) (.int i) H Q := .inr (.inl ⟨p, xs, i, v, rfl, rfl, hs, ha, h⟩)
theorem r_ixS {a : List Nat} {i : Int} {c : Nat} (hl : a.length ≤ sizeLine) (ha : atI a i = some c) (h : Q (.str (S [c])) H) : rIx K (.str (S a)) (.int i) H Q :=
  .inr (.inr ⟨_, i, c, rfl, rfl, by rw [S_len]; exact hl, by simpa using ha, h⟩)
/-! new objects: the heap behind is told by what it bears -/
def Nw (H : Hp) (o : HO) (Q : VK) : Prop := ∀ p H2, H p = none → Same H H2 → H2 p = some o → Q (.ref p) H2
theorem same_new {H : Hp} {p : Addr} {o : HO} (h : H p = none) : Same H (upd H p o) := fun b u e => by
  rw [upd_ne (ne_of_none e h)]
  exact e
theorem Nw.go {o : HO} (h : Nw H o Q) : ∀ p, H p = none → Q (.ref p) (upd H p o) := fun p hp => h p _ hp (same_new hp) upd_same
def MkT (H : Hp) (xs : List V) (Q : VK) : Prop := xs.length ≤ sizeLine ∧ ∀ p, H p = none → Q (.ref p) (upd H p (.tup xs))
def MkL (H : Hp) (xs : List V) (Q : VK) : Prop := xs.length ≤ sizeLine ∧ ∀ p, H p = none → Q (.ref p) (upd H p (.lst xs))
theorem r_tup {t : TA} (h : t σ H fun xs H1 => MkT H1 xs Q) : tTup t σ H Q := h
theorem r_lst {t : TA} (h : t σ H fun xs H1 => MkL H1 xs Q) : tLst t σ H Q := h
theorem r_mkT {xs : List V} (hl : xs.length ≤ sizeLine) (h : Nw H (.tup xs) Q) : MkT H xs Q := ⟨hl, h.go⟩
theorem r_mkL {xs : List V} (hl : xs.length ≤ sizeLine) (h : Nw H (.lst xs) Q) : MkL H xs Q := ⟨hl, h.go⟩
theorem r_dnew (h : Nw H (.dK []) Q) : tDNewK σ H Q := h.go
theorem sz {n : Nat} (h : n ≤ 16777216) : n ≤ sizeLine := by rw [sizeLine_eq]; exact h
theorem szl {n : Nat} (h : n < 16777216) : n < sizeLine := by rw [sizeLine_eq]; exact h
/-! calls -/
theorem r_call {sp : Sp} {E : XK} {t : TA} (h : t σ H fun vs H1 => sp vs H1 Q E) : tCall sp [] E t σ H Q := by
  unfold tCall
  simpa using h
theorem r_cb {r : List V → Hp → VK → Prop} {t : TA} (h : t σ H fun vs H1 => r vs H1 Q) : tCB r t σ H Q := h
theorem r_lenL {p : Addr} {xs : List V} (hs : SqL K H p xs) (h : Q (.int xs.length) H) : rLenG K [.ref p] H Q := .inl ⟨p, xs, rfl, .inl hs, h⟩
theorem r_lenT {p : Addr} {xs : List V} (hs : SqT K H p xs) (h : Q (.int xs.length) H) : rLenG K [.ref p] H Q := .inl ⟨p, xs, rfl, .inr hs, h⟩
theorem r_lenS {a : List Nat} (hl : a.length ≤ sizeLine) (h : Q (.int a.length) H) : rLenG K [.str (S a)] H Q := .inr (.inl ⟨_, rfl, by rw [S_len]; exact hl, by rw [S_len]; exact h⟩)
theorem r_lenD {p : Addr} {kvs : List (Key × V)} (hs : H p = some (.dK kvs)) (h : Q (.int kvs.length) H) : rLenG K [.ref p] H Q := .inr (.inr ⟨p, kvs, rfl, hs, h⟩)
theorem r_listL {p : Addr} {xs : List V} (hs : SqL K H p xs) (h : Nw H (.lst xs) Q) : rListG K [.ref p] H Q := .inl ⟨p, xs, rfl, .inl hs, h.go⟩
theorem r_listD {p : Addr} {kvs : List (Key × V)} (hs : Rd H p (.dK kvs)) (h : Nw H (.lst (kvs.map fun kv => kV kv.1)) Q) : rListG K [.ref p] H Q := .inr ⟨p, kvs, rfl, hs, h.go⟩
theorem r_dictD {p : Addr} {kvs : List (Key × V)} (hs : Rd H p (.dK kvs)) (h : Nw H (.dK kvs) Q) : rDictD [.ref p] H Q := ⟨p, kvs, rfl, hs, h.go⟩
theorem r_isi {x : V} {t c : String} {b : Bool} (ty : TyX K H x (.type t)) (hb : kitB t c = some b) (h : Q (.bl b) H) : rIsi K [x, .ty c] H Q := ⟨x, _, _, _, b, rfl, .ty c, ty, kit_ty hb, h⟩
theorem r_is_int_int {i : Int} (h : Q (.bl true) H) : rIsi K [.int i, .ty "int"] H Q := r_isi (.base (.int _)) (t := "int") (by decide +kernel) h
theorem r_is_int_bool {i : Int} (h : Q (.bl false) H) : rIsi K [.int i, .ty "bool"] H Q := r_isi (.base (.int _)) (t := "int") (by decide +kernel) h
theorem r_is_int_str {i : Int} (h : Q (.bl false) H) : rIsi K [.int i, .ty "str"] H Q := r_isi (.base (.int _)) (t := "int") (by decide +kernel) h
theorem r_is_int_tuple {i : Int} (h : Q (.bl false) H) : rIsi K [.int i, .ty "tuple"] H Q := r_isi (.base (.int _)) (t := "int") (by decide +kernel) h
theorem r_is_int_list {i : Int} (h : Q (.bl false) H) : rIsi K [.int i, .ty "list"] H Q := r_isi (.base (.int _)) (t := "int") (by decide +kernel) h
theorem r_is_int_dict {i : Int} (h : Q (.bl false) H) : rIsi K [.int i, .ty "dict"] H Q := r_isi (.base (.int _)) (t := "int") (by decide +kernel) h
theorem r_is_str_int {z : Str} (h : Q (.bl false) H) : rIsi K [.str z, .ty "int"] H Q := r_isi (.base (.str _)) (t := "str") (by decide +kernel) h
theorem r_is_str_bool {z : Str} (h : Q (.bl false) H) : rIsi K [.str z, .ty "bool"] H Q := r_isi (.base (.str _)) (t := "str") (by decide +kernel) h
theorem r_is_str_str {z : Str} (h : Q (.bl true) H) : rIsi K [.str z, .ty "str"] H Q := r_isi (.base (.str _)) (t := "str") (by decide +kernel) h
theorem r_is_str_tuple {z : Str} (h : Q (.bl false) H) : rIsi K [.str z, .ty "tuple"] H Q := r_isi (.base (.str _)) (t := "str") (by decide +kernel) h
theorem r_is_str_list {z : Str} (h : Q (.bl false) H) : rIsi K [.str z, .ty "list"] H Q := r_isi (.base (.str _)) (t := "str") (by decide +kernel) h
theorem r_is_str_dict {z : Str} (h : Q (.bl false) H) : rIsi K [.str z, .ty "dict"] H Q := r_isi (.base (.str _)) (t := "str") (by decide +kernel) h
theorem r_is_bl_int {b : Bool} (h : Q (.bl true) H) : rIsi K [.bl b, .ty "int"] H Q := r_isi (.base (.bl _)) (t := "bool") (by decide +kernel) h
theorem r_is_bl_bool {b : Bool} (h : Q (.bl true) H) : rIsi K [.bl b, .ty "bool"] H Q := r_isi (.base (.bl _)) (t := "bool") (by decide +kernel) h
theorem r_is_bl_str {b : Bool} (h : Q (.bl false) H) : rIsi K [.bl b, .ty "str"] H Q := r_isi (.base (.bl _)) (t := "bool") (by decide +kernel) h
theorem r_is_bl_tuple {b : Bool} (h : Q (.bl false) H) : rIsi K [.bl b, .ty "tuple"] H Q := r_isi (.base (.bl _)) (t := "bool") (by decide +kernel) h
theorem r_is_bl_list {b : Bool} (h : Q (.bl false) H) : rIsi K [.bl b, .ty "list"] H Q := r_isi (.base (.bl _)) (t := "bool") (by decide +kernel) h
theorem r_is_bl_dict {b : Bool} (h : Q (.bl false) H) : rIsi K [.bl b, .ty "dict"] H Q := r_isi (.base (.bl _)) (t := "bool") (by decide +kernel) h
theorem r_is_non_int  (h : Q (.bl false) H) : rIsi K [.non, .ty "int"] H Q := r_isi (.base .non) (t := "NoneType") (by decide +kernel) h
theorem r_is_non_bool  (h : Q (.bl false) H) : rIsi K [.non, .ty "bool"] H Q := r_isi (.base .non) (t := "NoneType") (by decide +kernel) h
theorem r_is_non_str  (h : Q (.bl false) H) : rIsi K [.non, .ty "str"] H Q := r_isi (.base .non) (t := "NoneType") (by decide +kernel) h
theorem r_is_non_tuple  (h : Q (.bl false) H) : rIsi K [.non, .ty "tuple"] H Q := r_isi (.base .non) (t := "NoneType") (by decide +kernel) h
theorem r_is_non_list  (h : Q (.bl false) H) : rIsi K [.non, .ty "list"] H Q := r_isi (.base .non) (t := "NoneType") (by decide +kernel) h
theorem r_is_non_dict  (h : Q (.bl false) H) : rIsi K [.non, .ty "dict"] H Q := r_isi (.base .non) (t := "NoneType") (by decide +kernel) h
theorem r_is_lst_int {a : Addr} {xs : List V} (e : H a = some (.lst xs)) (h : Q (.bl false) H) : rIsi K [.ref a, .ty "int"] H Q := r_isi (.base (.lst e)) (t := "list") (by decide +kernel) h
theorem r_is_lst_str {a : Addr} {xs : List V} (e : H a = some (.lst xs)) (h : Q (.bl false) H) : rIsi K [.ref a, .ty "str"] H Q := r_isi (.base (.lst e)) (t := "list") (by decide +kernel) h
theorem r_is_lst_tuple {a : Addr} {xs : List V} (e : H a = some (.lst xs)) (h : Q (.bl false) H) : rIsi K [.ref a, .ty "tuple"] H Q := r_isi (.base (.lst e)) (t := "list") (by decide +kernel) h
theorem r_is_lst_list {a : Addr} {xs : List V} (e : H a = some (.lst xs)) (h : Q (.bl true) H) : rIsi K [.ref a, .ty "list"] H Q := r_isi (.base (.lst e)) (t := "list") (by decide +kernel) h
theorem r_is_lst_dict {a : Addr} {xs : List V} (e : H a = some (.lst xs)) (h : Q (.bl false) H) : rIsi K [.ref a, .ty "dict"] H Q := r_isi (.base (.lst e)) (t := "list") (by decide +kernel) h
theorem r_is_tup_int {a : Addr} {xs : List V} (e : H a = some (.tup xs)) (h : Q (.bl false) H) : rIsi K [.ref a, .ty "int"] H Q := r_isi (.base (.tup e)) (t := "tuple") (by decide +kernel) h
theorem r_is_tup_str {a : Addr} {xs : List V} (e : H a = some (.tup xs)) (h : Q (.bl false) H) : rIsi K [.ref a, .ty "str"] H Q := r_isi (.base (.tup e)) (t := "tuple") (by decide +kernel) h
theorem r_is_tup_tuple {a : Addr} {xs : List V} (e : H a = some (.tup xs)) (h : Q (.bl true) H) : rIsi K [.ref a, .ty "tuple"] H Q := r_isi (.base (.tup e)) (t := "tuple") (by decide +kernel) h
theorem r_is_tup_list {a : Addr} {xs : List V} (e : H a = some (.tup xs)) (h : Q (.bl false) H) : rIsi K [.ref a, .ty "list"] H Q := r_isi (.base (.tup e)) (t := "tuple") (by decide +kernel) h
theorem r_is_tup_dict {a : Addr} {xs : List V} (e : H a = some (.tup xs)) (h : Q (.bl false) H) : rIsi K [.ref a, .ty "dict"] H Q := r_isi (.base (.tup e)) (t := "tuple") (by decide +kernel) h
theorem r_is_dK_int {a : Addr} {kvs : List (Key × V)} (e : H a = some (.dK kvs)) (h : Q (.bl false) H) : rIsi K [.ref a, .ty "int"] H Q := r_isi (.base (.dK e)) (t := "dict") (by decide +kernel) h
theorem r_is_dK_str {a : Addr} {kvs : List (Key × V)} (e : H a = some (.dK kvs)) (h : Q (.bl false) H) : rIsi K [.ref a, .ty "str"] H Q := r_isi (.base (.dK e)) (t := "dict") (by decide +kernel) h
theorem r_is_dK_tuple {a : Addr} {kvs : List (Key × V)} (e : H a = some (.dK kvs)) (h : Q (.bl false) H) : rIsi K [.ref a, .ty "tuple"] H Q := r_isi (.base (.dK e)) (t := "dict") (by decide +kernel) h
theorem r_is_dK_list {a : Addr} {kvs : List (Key × V)} (e : H a = some (.dK kvs)) (h : Q (.bl false) H) : rIsi K [.ref a, .ty "list"] H Q := r_isi (.base (.dK e)) (t := "dict") (by decide +kernel) h
theorem r_is_dK_dict {a : Addr} {kvs : List (Key × V)} (e : H a = some (.dK kvs)) (h : Q (.bl true) H) : rIsi K [.ref a, .ty "dict"] H Q := r_isi (.base (.dK e)) (t := "dict") (by decide +kernel) h
theorem r_max2 {i j : Int} (h : Q (.int (max i j)) H) : rMax2 [.int i, .int j] H Q := ⟨i, j, rfl, by
  have e : (if j > i then j else i) = max i j := by
    by_cases q : j > i
    · rw [if_pos q]; omega
    · rw [if_neg q]; omega
  rw [e]; exact h⟩
theorem r_min2 {i j : Int} (h : Q (.int (min i j)) H) : rMin2 [.int i, .int j] H Q := ⟨i, j, rfl, by
  have e : (if j < i then j else i) = min i j := by
    by_cases q : j < i
    · rw [if_pos q]; omega
    · rw [if_neg q]; omega
  rw [e]; exact h⟩
theorem r_bm {T : String} {r : V → List V → Hp → VK → Prop} {t : TA} (h : te σ H fun x H1 => tyV K T x H1 ∧ t σ H1 fun xs H2 => r x xs H2 Q) : tBM K T r te t σ H Q := h
theorem r_bm0 {T : String} {r : V → List V → Hp → VK → Prop} (h : te σ H fun x H1 => tyV K T x H1 ∧ r x [] H1 Q) : tBM0 K T r te σ H Q := h
theorem r_tyL {p : Addr} {xs : List V} {P : Prop} (hs : SqL K H p xs) (h : P) : tyV K "list" (.ref p) H ∧ P := ⟨.inl ⟨rfl, xs, hs⟩, h⟩
theorem r_tyS {z : Str} {P : Prop} (h : P) : tyV K "str" (.str z) H ∧ P := ⟨rfl, h⟩
/-- what a store changes: p alone -/
def Chg (p : Addr) (o : HO) (H H' : Hp) : Prop := H' p = some o ∧ ∀ b u, b ≠ p → H b = some u → H' b = some u
theorem chg_upd {p : Addr} {o : HO} : Chg p o H (upd H p o) := ⟨upd_same, fun b u n e => by rw [upd_ne n]; exact e⟩
theorem r_append {p : Addr} {xs : List V} {y : V} (hs : H p = some (.lst xs)) (hl : xs.length < sizeLine) (h : ∀ H', Chg p (.lst (xs ++ [y])) H H' → Q .non H') : rAppend (.ref p) [y] H Q :=
  ⟨p, xs, y, rfl, rfl, hs, hl, h _ chg_upd⟩
/-! dicts -/
theorem r_dget {td ty : TE} (h : td σ H fun x H1 => ty σ H1 fun y H2 => ∃ a v, x = .ref a ∧ DGet H2 a y (some v) ∧ Q v H2) : tDGet td ty σ H Q := h
theorem r_dgetE {p : Addr} {kvs : List (Key × V)} {n : Int} {v : V} (hs : Rd H p (.dK kvs)) {P : V → Prop} (e : valV kvs (.inl n) = some v) (h : P v) : ∃ a v, V.ref p = .ref a ∧ DGet H a (.int n) (some v) ∧ P v :=
  ⟨p, v, rfl, .inl ⟨kvs, .inl n, hs, rfl, e.symm⟩, h⟩
theorem r_din {td ty : TE} (h : ty σ H fun y H1 => td σ H1 fun x H2 => ∃ a o, x = .ref a ∧ DGet H2 a y o ∧ Q (.bl o.isSome) H2) : tDIn ty td σ H Q := h
theorem r_dnotin {td ty : TE} (h : ty σ H fun y H1 => td σ H1 fun x H2 => ∃ a o, x = .ref a ∧ DGet H2 a y o ∧ Q (.bl (!o.isSome)) H2) : tDNotIn ty td σ H Q := h
theorem r_dinE {p : Addr} {kvs : List (Key × V)} {n : Int} {P : Option V → Prop} (hs : Rd H p (.dK kvs)) (h : P (valV kvs (.inl n))) : ∃ a o, V.ref p = .ref a ∧ DGet H a (.int n) o ∧ P o :=
  ⟨p, _, rfl, .inl ⟨kvs, .inl n, hs, rfl, rfl⟩, h⟩
theorem r_dput {td ty tv : TE} (h : tv σ H fun v H1 => td σ H1 fun x H2 => ty σ H2 fun y H3 => ∃ a H4, x = .ref a ∧ DPut H3 a y v H4 ∧ nx σ H4) : sDPut td ty tv ⟨nx, rt, bk, ct⟩ σ H := h
theorem r_dputE {p : Addr} {kvs : List (Key × V)} {n : Int} {v : V} {P : Hp → Prop} (hs : H p = some (.dK kvs)) (hl : kvs.length < sizeLine) (h : ∀ H', Chg p (.dK (putK kvs (.inl n) v)) H H' → P H') :
    ∃ a H4, V.ref p = .ref a ∧ DPut H a (.int n) v H4 ∧ P H4 := ⟨p, _, rfl, DPut.k (k := .inl n) hs hl, h _ chg_upd⟩
/-! fields, methods -/
theorem r_fld {f : Str} (h : ta σ H fun x H1 => ∃ a C dx fs v, x = .ref a ∧ H1 a = some (.ins C dx fs) ∧ Cls K C ∧ NoAttr K C f ∧ fs.lookup f = some v ∧ Q v H1) : tFld K ta f σ H Q := h
theorem r_meth {C : Addr} {m : Str} {sp : Sp} {E : XK} {t : TA} (h : ta σ H fun x H1 => ∃ a dx fs, x = .ref a ∧ H1 a = some (.ins C dx fs) ∧ fs.lookup m = none ∧ t σ H1 fun vs H2 => sp (x :: vs) H2 Q E) : tMeth C m sp [] E ta t σ H Q := by
  unfold tMeth
  simpa using h
/-! locks, loops, comprehensions -/
theorem same_trans {H1 H2 H3 : Hp} (a : Same H1 H2) (b : Same H2 H3) : Same H1 H3 := a.trans b
/-- a loop, a comprehension over what J walks -/
def ForG (J : It) (g : TG) (tb : TS) (nx : St → Hp → Prop) (rt : VK) (σ : St) (H : Hp) : Prop := ∃ W : Nat → Nat → St → Hp → Prop, (∃ m, W 0 m σ H) ∧ ∀ i m σ H, W i m σ H → (J.stop i H ∧ nx σ H) ∨ (J.go i H ∧ ∃ N : St → Hp → Prop, (∀ σ' H', N σ' H' → ∃ m', m' < m ∧ W (i + 1) m' σ' H') ∧
    ∀ x H', J.yld i H x H' → g x σ H' fun σ2 H2 => tb ⟨N, rt, nx, N⟩ σ2 H2)
def LcG (J : It) (k : Nat) (tt : TT) (te : TE) (σ : St) (Q : VK) (H1 : Hp) : Prop := ∀ D, H1 D = none → ∃ W : Nat → Nat → Hp → Prop, (∃ m, W 0 m (upd H1 D (.lst []))) ∧ ∀ i m H, W i m H →
  (J.stop i H ∧ Q (.ref D) H) ∨ (J.go i H ∧ ∃ Nx : Hp → Prop, (∀ H', Nx H' → ∃ m', m' < m ∧ W (i + 1) m' H') ∧ ∀ x H', J.yld i H x H' → gName k x (wipe σ [k]) H' fun σ2 H2 => wipe σ2 [k] = wipe σ [k] ∧ tt σ2 H2 fun b H3 =>
    if b = true then te σ2 H3 fun y H4 => ∃ acc, H4 D = some (.lst acc) ∧ acc.length < sizeLine ∧ Nx (upd H4 D (.lst (acc ++ [y]))) else Nx H3)
theorem r_for {wi : TI} {tb : TS} (h : wi σ H fun J H1 => ForG J g tb nx rt σ H1) : tFor wi g tb ⟨nx, rt, bk, ct⟩ σ H := h
theorem r_rng1 {t : TA} {R : It → Hp → Prop} (h : t σ H fun vs H1 => ∃ j : Int, vs = [.int j] ∧ -(2 ^ 62) ≤ j ∧ j < 2 ^ 62 ∧ R (Itr 0 j.toNat) H1) : iRng1 t σ H R := h
theorem r_rng1E {j : Int} {P : Int → Prop} (h1 : -(2 ^ 62) ≤ j ∧ j < 2 ^ 62) (h : P j) : ∃ j' : Int, [V.int j] = [.int j'] ∧ -(2 ^ 62) ≤ j' ∧ j' < 2 ^ 62 ∧ P j' := ⟨j, rfl, h1.1, h1.2, h⟩
theorem r_rng2 {t : TA} {R : It → Hp → Prop} (h : t σ H fun vs H1 => ∃ i j : Int, vs = [.int i, .int j] ∧ (-(2 ^ 62) ≤ i ∧ i < 2 ^ 62 ∧ -(2 ^ 62) ≤ j ∧ j < 2 ^ 62) ∧ R (Itr i (j - i).toNat) H1) : iRng2 t σ H R := h
theorem r_rng2E {i j : Int} {P : Int → Int → Prop} (h1 : -(2 ^ 62) ≤ i ∧ i < 2 ^ 62 ∧ -(2 ^ 62) ≤ j ∧ j < 2 ^ 62) (h : P i j) : ∃ i2 j2 : Int, [V.int i, V.int j] = [.int i2, .int j2] ∧ (-(2 ^ 62) ≤ i2 ∧ i2 < 2 ^ 62 ∧ -(2 ^ 62) ≤ j2 ∧ j2 < 2 ^ 62) ∧ P i2 j2 := ⟨i, j, rfl, h1, h⟩
theorem r_iList {R : It → Hp → Prop} (h : te σ H fun x H1 => ∃ a, x = .ref a ∧ (∃ xs, SqL K H1 a xs) ∧ R (Itl K a) H1) : iList K te σ H R := h
theorem r_iListE {a : Addr} {xs : List V} {P : Addr → Prop} (hs : SqL K H a xs) (h : P a) : ∃ a2, V.ref a = .ref a2 ∧ (∃ xs, SqL K H a2 xs) ∧ P a2 := ⟨a, rfl, ⟨xs, hs⟩, h⟩
theorem r_iKeys {R : It → Hp → Prop} (h : te σ H fun x H1 => ∃ d o, x = .ref d ∧ ((∃ kvs, H1 d = some (.frz o (.dK kvs)) ∧ R (Itk d o kvs) H1) ∨ ∃ kvs, H1 d = some (.frz o (.dT kvs)) ∧ R (Itkt d o kvs) H1)) : iKeys te σ H R := h
theorem r_iKeysE {d : Addr} {o : Obj} {kvs : List (Key × V)} {R : It → Hp → Prop} (hs : H d = some (.frz o (.dK kvs))) (h : R (Itk d o kvs) H) :
    ∃ d2 o2, V.ref d = .ref d2 ∧ ((∃ kvs, H d2 = some (.frz o2 (.dK kvs)) ∧ R (Itk d2 o2 kvs) H) ∨ ∃ kvs, H d2 = some (.frz o2 (.dT kvs)) ∧ R (Itkt d2 o2 kvs) H) := ⟨d, o, rfl, .inl ⟨kvs, hs, h⟩⟩
theorem r_rev {p : Addr} {xs : List V} (hs : H p = some (.lst xs)) (h : ∀ H', Chg p (.lst xs.reverse) H H' → Q .non H') : rReverse (.ref p) [] H Q := ⟨p, xs, rfl, rfl, hs, h _ chg_upd⟩
theorem r_lc {wi : TI} {k : Nat} (h : wi σ H fun J H1 => LcG J k tt te σ Q H1) : tLc wi (gName k) tt te [k] σ H Q := h
end

/-! ### loops and comprehensions by what is walked -/
section
variable {nx : St → Hp → Prop} {rt : VK} {bk ct : St → Hp → Prop} {σ : St} {H : Hp} {te : TE} {g : TG} {tt : TT} {Q : VK} {J : It} {n : Nat} {G : Hp → Prop} {Y : Nat → Hp → V → Hp → Prop} {tb : TS}
theorem for_go (w : Walk J n G Y) (Pv : Nat → St → Hp → Prop) (h0 : Pv 0 σ H) (hG : ∀ i σ H, i ≤ n → Pv i σ H → G H)
    (hs : ∀ i x σ H H', i < n → Pv i σ H → Y i H x H' → g x σ H' fun σ2 H2 => tb ⟨Pv (i + 1), rt, nx, Pv (i + 1)⟩ σ2 H2) (hd : ∀ σ H, Pv n σ H → nx σ H) :
    ForG J g tb nx rt σ H := for_it w (D := ⟨nx, rt, fun _ _ => False, fun _ _ => False⟩) Pv h0 hG hs hd
theorem walk_rng {lo : Int} {n : Nat} : Walk (Itr lo n) n (fun _ => True) (fun i H x H' => H' = H ∧ x = .int (lo + i)) := walk_range.mono (fun _ h => h) fun i H x H' _ _ y => y
theorem walk_rng0 {n : Nat} : Walk (Itr 0 n) n (fun _ => True) (fun i H x H' => H' = H ∧ x = .int i) := walk_range.mono (fun _ h => h) fun i H x H' _ _ y => ⟨y.1, by rw [y.2]; show V.int (0 + (i : Int)) = V.int i; rw [Int.zero_add]⟩
theorem r_yes {QB : Bool → Hp → Prop} (h : QB true H) : tYes σ H QB := h
/-- what holds of a comprehension's list so far -/
def LcI (Pv : Addr → Nat → List V → Hp → Prop) (D : Addr) (i : Nat) (H : Hp) : Prop := ∃ acc, acc.length ≤ i ∧ H D = some (.lst acc) ∧ Pv D i acc H
theorem lc_go (w : Walk J n G Y) (hn : n ≤ 1000000) {k : Nat} (Pv : Addr → Nat → List V → Hp → Prop) (h0 : ∀ D H2, H D = none → Same H H2 → H2 D = some (.lst []) → Pv D 0 [] H2)
    (hG : ∀ D i acc H, i ≤ n → Pv D i acc H → G H)
    (hs : ∀ D i x acc H H', i < n → acc.length ≤ i → H D = some (.lst acc) → Pv D i acc H → Y i H x H' → gName k x σ H' fun σ2 H2 => tt σ2 H2 fun b H3 =>
      if b = true then te σ2 H3 fun y H4 => ∃ acc, H4 D = some (.lst acc) ∧ acc.length < sizeLine ∧ LcI Pv D (i + 1) (upd H4 D (.lst (acc ++ [y]))) else LcI Pv D (i + 1) H3)
    (hd : ∀ D acc H, Pv D n acc H → H D = some (.lst acc) → Q (.ref D) H) :
    LcG J k tt te σ Q H := by
  intro D hD
  refine lc_it w (Qd := fun H => Q (.ref D) H) (fun i H => LcI Pv D i H) ⟨[], Nat.le_refl _, upd_same, h0 D _ hD (same_new hD) upd_same⟩ (fun i H hi ⟨acc, _, _, p⟩ => hG D i acc H hi p) ?_ (fun H ⟨acc, _, e, p⟩ => hd D acc H p e)
  rintro i x H1 H' hi ⟨acc, ha, e, p⟩ y
  have e1 : (wipe σ [k]).set k (some x) = σ.set k (some x) := by
    show (σ.set k none).set k (some x) = σ.set k (some x)
    rw [List.set_set]
  have e2 : wipe (σ.set k (some x)) [k] = wipe σ [k] := by
    show (σ.set k (some x)).set k none = σ.set k none
    rw [List.set_set]
  show wipe ((wipe σ [k]).set k (some x)) [k] = wipe σ [k] ∧ tt ((wipe σ [k]).set k (some x)) H' _
  rw [e1]
  exact ⟨e2, hs D i x acc H1 H' hi ha e p y⟩
theorem lc_end {Pv : Addr → Nat → List V → Hp → Prop} {D : Addr} {i : Nat} {acc : List V} {y : V} (ha : acc.length ≤ i) (hi : i < 1000000) (e : H D = some (.lst acc))
    (h : ∀ H5, Chg D (.lst (acc ++ [y])) H H5 → Pv D (i + 1) (acc ++ [y]) H5) : ∃ acc, H D = some (.lst acc) ∧ acc.length < sizeLine ∧ LcI Pv D (i + 1) (upd H D (.lst (acc ++ [y]))) :=
  ⟨acc, e, by rw [sizeLine_eq]; omega, acc ++ [y], by rw [List.length_append]; show acc.length + 1 ≤ i + 1; omega, upd_same, h _ chg_upd⟩
theorem lc_not {Pv : Addr → Nat → List V → Hp → Prop} {D : Addr} {i : Nat} {acc : List V} (ha : acc.length ≤ i) (e : H D = some (.lst acc)) (h : Pv D (i + 1) acc H) : LcI Pv D (i + 1) H := ⟨acc, by omega, e, h⟩
/-- a while -/
theorem r_while {c : TT} (Pv : St → Hp → Prop) (μ : St → Hp → Nat) (h0 : Pv σ H)
    (hs : ∀ σ H, Pv σ H → c σ H fun b H1 => if b = true then ∃ N : St → Hp → Prop, (∀ σ' H', N σ' H' → ∃ m', m' < μ σ H ∧ (m' = μ σ' H' ∧ Pv σ' H')) ∧ tb ⟨N, rt, nx, N⟩ σ H1 else nx σ H1) : tWhile c tb ⟨nx, rt, bk, ct⟩ σ H := by
  refine ⟨fun m σ H => m = μ σ H ∧ Pv σ H, ⟨_, rfl, h0⟩, ?_⟩
  rintro m σ H ⟨rfl, p⟩
  exact hs σ H p
theorem wh_body {Pv : St → Hp → Prop} {μ : St → Hp → Nat} {m : Nat} {H1 : Hp} (h : tb ⟨fun σ' H' => Pv σ' H' ∧ μ σ' H' < m, rt, nx, fun σ' H' => Pv σ' H' ∧ μ σ' H' < m⟩ σ H1) :
    ∃ N : St → Hp → Prop, (∀ σ' H', N σ' H' → ∃ m', m' < m ∧ (m' = μ σ' H' ∧ Pv σ' H')) ∧ tb ⟨N, rt, nx, N⟩ σ H1 := ⟨_, fun σ' H' h => ⟨_, h.2, rfl, h.1⟩, h⟩
end
/-! ### the steps by their heads -/
/-- a fact of an elder heap, in the newest -/
theorem sm_of {H H' : Hp} {a : Addr} {o : HO} (s : Same H H') (h : H a = some o) : H' a = some o := s a o h
theorem sm_chg {H H1 H2 : Hp} {D : Addr} {o : HO} (s : Same H H1) (h : H D = none) (c : Chg D o H1 H2) : Same H H2 := fun b u e => c.2 b u (ne_of_none e h) (s b u e)
theorem sm_tup {K : PySem.W.Frag} {H H' : Hp} {a : Addr} {xs : List V} (e : Same H H') (h : SqT K H a xs) : SqT K H' a xs := by
  rcases h with (h | ⟨o, h⟩) | h
  · exact .inl (.inl (e _ _ h))
  · exact .inl (.inr ⟨o, e _ _ h⟩)
  · exact .inr h
theorem sm_rd {H H' : Hp} {a : Addr} {u : HO} (e : Same H H') (h : Rd H a u) : Rd H' a u := by
  rcases h with h | ⟨o, h⟩
  · exact .inl (e _ _ h)
  · exact .inr ⟨o, e _ _ h⟩
end Pk
namespace Pk
open PySem PySem.Spec L2
/-- a def of the module's top, called by its name -/
structure FnAt (P : Program) (w : World) (K : PySem.W.Frag) (mg : Str → Option Value) (base : Heap) (x : Str) (k : Nat) (ps : List Str) (sp : Sp) (f : Addr) (fd : FuncData) : Prop where
  ok : FnOk P w K mg base (L2.CX P w) k f fd ps sp
  mg : mg x = some (.ref f)
  kp : PySem.W.keepIn K (.ref f) = true
  b : Binds K fd ps []
/-- a method of the class at C -/
structure MeAt (P : Program) (w : World) (K : PySem.W.Frag) (mg : Str → Option Value) (base : Heap) (C : Addr) (m : Str) (k : Nat) (ps : List Str) (sp : Sp) (f : Addr) (fd : FuncData) : Prop where
  ok : FnOk P w K mg base (L2.CX P w) k f fd ps sp
  mt : Meth K C m f
  b : Binds K fd ps []
/-- the class's __init__ -/
structure MeI (P : Program) (w : World) (K : PySem.W.Frag) (mg : Str → Option Value) (base : Heap) (C : Addr) (k : Nat) (ps : List Str) (sp : Sp) (f : Addr) (fd : FuncData) : Prop where
  ok : FnOk P w K mg base (L2.CX P w) k f fd ps sp
  b : Binds K fd ps []
theorem cx_no {P : Program} {w : World} {outer : List Env} {H : Hp} {s : Shared} {e : Value} {s2 : Shared} (h : L2.CX P w outer H s (fun _ _ _ => False) e s2) : False := by
  obtain ⟨_, _, _, _, _, _, _, _, _, _, _, _, z⟩ := h
  exact z
/-- what a raised own class must say -/
structure ExAt (K : PySem.W.Frag) (mg : Str → Option Value) (x : Str) (C : Addr) : Prop where
  mg : mg x = some (.ref C)
  x : PySem.W.excIn K C He.veBase "ValueError.__new__" = true
  k : PySem.W.keepIn K (.ref C) = true
  b : PySem.W.subIn K (.ref C) (.type "BaseException") = some true
  t : PySem.W.typeIn K (.ref C) = some (.type "type")
/-- the facts of the head, and one more of one's own -/
def hookP (n : Nat) (fa : List He.Fa) (fn : List He.DefD) (ex : PySem.W.Frag → Bool) : PySem.W.Hook where
  α := He.AlD × Bool
  obs := fun s => (He.obsDG n fa fn s.heap.get?, ex (He.frG s.heap.get? (He.asD s.heap.get? n)))
  val := fun _ => (He.valD fn, true)
  says := fun _ h => ∃ K : PySem.W.Frag, K.In h ∧ He.SaysD fa fn K ∧ ex K = true
  of := fun _ _ e => ⟨_, He.frG_in, congrArg Prod.fst e, congrArg Prod.snd e⟩
  keeps := fun _ _ _ ⟨K, hK, c⟩ k => ⟨K, PySem.W.Frag.In.keeps hK k, c⟩
def obsP (n : Nat) (fa : List He.Fa) (fn : List He.DefD) (ex : PySem.W.Frag → Bool) (g : Addr → Option Obj) : He.AlD × Bool := (He.obsDG n fa fn g, ex (He.frG g (He.asD g n)))
theorem obsP_eq {n : Nat} {fa : List He.Fa} {fn : List He.DefD} {ex : PySem.W.Frag → Bool} {g : Addr → Option Obj} {s : Shared} (h : ∀ a, g a = s.heap.get? a) : obsP n fa fn ex g = (hookP n fa fn ex).obs s := by
  have e : g = s.heap.get? := funext h
  rw [e]
  rfl
end Pk
/-! PkM: the mathematics, and facts of the slots and heaps that several defs share. -/
namespace Pk
open PySem PySem.Spec L2
/-- where a change fits -/
def Fits (z : List Nat) (at_ : Int) (gone : List Nat) : Prop := 0 ≤ at_ ∧ at_ + gone.length ≤ z.length ∧ cutL z (some at_) (some (at_ + gone.length)) = gone
def doneL (z : List Nat) (at_ : Int) (gone come : List Nat) : List Nat := cutL z none (some at_) ++ come ++ cutL z (some (at_ + gone.length)) none
/-- a text of at most n signs -/
def Tx (n : Nat) (l : List Nat) : Prop := l.length ≤ n ∧ Ok l
theorem Tx.mono {n m : Nat} {l : List Nat} (h : Tx n l) (e : n ≤ m) : Tx m l := ⟨by have := h.1; omega, h.2⟩
theorem Tx.app {n m : Nat} {a b : List Nat} (h : Tx n a) (g : Tx m b) : Tx (n + m) (a ++ b) := ⟨by rw [List.length_append]; have := h.1; have := g.1; omega, fun c hc => (List.mem_append.mp hc).elim (h.2 c) (g.2 c)⟩
theorem Tx.sub {n : Nat} {a b : List Nat} (h : Tx n b) (s : a.Sublist b) : Tx n a := ⟨by have := h.1; have := s.length_le; omega, fun c hc => h.2 c (s.subset hc)⟩
theorem Tx.take {n : Nat} {a : List Nat} (h : Tx n a) (k : Nat) : Tx n (a.take k) := h.sub (List.take_sublist k a)
theorem Tx.drop {n : Nat} {a : List Nat} (h : Tx n a) (k : Nat) : Tx n (a.drop k) := h.sub (List.drop_sublist k a)
theorem Tx.cut {n : Nat} {a : List Nat} (h : Tx n a) (lo hi : Option Int) : Tx n (cutL a lo hi) := (h.drop _).take _
theorem strOk_of {l : List Nat} (h : Ok l) : PyData.strOk (S l) = true := by
  unfold PyData.strOk
  rw [Array.all_eq_true]
  intro i hi
  exact decide_eq_true (h _ (by simp))
theorem dp_i (K : PySem.W.Frag) (H : Hp) (i : Int) : Dp K H (.int i) (.int i) := .int i
/-- a change as data -/
abbrev chD (i : Int) (a b : List Nat) : PyData := .tuple [.int i, .str (S a), .str (S b)]
theorem chD_dp {K : PySem.W.Frag} {H : Hp} {t : Addr} {i : Int} {a b : List Nat} (h : H t = some (.tup [.int i, .str (S a), .str (S b)])) : Dp K H (.ref t) (chD i a b) := .tup (.of h) (.cons (.int i) (.cons (.str _) (.cons (.str _) .nil)))
theorem chD_lay {i : Int} {a b : List Nat} (ha : Ok a) (hb : Ok b) : (chD i a b).canLay0 = true := by
  simp [chD, PyData.canLay0, PyData.canLayAll0, strOk_of ha, strOk_of hb]
theorem chD_shaped {i : Int} {a b : List Nat} (ha : Ok a) (hb : Ok b) : SeqAt.shaped (chD i a b) = true := by
  unfold SeqAt.shaped
  rw [chD_lay ha hb]
  rfl
theorem r_eqSame {K : PySem.W.Frag} {H : Hp} {Q : VK} {x y : V} (d : PyData) (h1 : Dp K H x d) (h2 : Dp K H y d) (s : SeqAt.shaped d = true) (h : Q (.bl true) H) : rEqG K x y H Q :=
  r_eqD d d h1 h2 s s (by rw [SeqAt.eqv_refl d (SeqAt.canLay_of_shaped s)]; exact h)
theorem r_neSame {K : PySem.W.Frag} {H : Hp} {Q : VK} {x y : V} (d : PyData) (h1 : Dp K H x d) (h2 : Dp K H y d) (s : SeqAt.shaped d = true) (h : Q (.bl false) H) : rNeG K x y H Q :=
  r_neD d d h1 h2 s s (by rw [SeqAt.eqv_refl d (SeqAt.canLay_of_shaped s)]; exact h)
theorem cutL_len (z : List Nat) (lo hi : Option Int) : (cutL z lo hi).length ≤ z.length := by
  unfold cutL
  rw [List.length_take, List.length_drop]
  omega
theorem cutL_nn (z : List Nat) (i j : Nat) : cutL z (some (i : Int)) (some (j : Int)) = (z.drop i).take (j - i) := by
  unfold cutL
  rw [HT.sIx_nat, HT.sIx_nat]
  by_cases h : i ≤ z.length
  · rw [Nat.min_eq_left h]
    by_cases h2 : j ≤ z.length
    · rw [Nat.min_eq_left h2]
    · rw [Nat.min_eq_right (show z.length ≤ j by omega), List.take_of_length_le (by rw [List.length_drop]; omega), List.take_of_length_le (by rw [List.length_drop]; omega)]
  · rw [Nat.min_eq_right (show z.length ≤ i by omega), List.drop_eq_nil_of_le (Nat.le_refl z.length), List.drop_eq_nil_of_le (show z.length ≤ i by omega)]
    simp
theorem cutL_to (z : List Nat) (j : Nat) : cutL z none (some (j : Int)) = z.take j := by
  unfold cutL
  rw [HT.sIx_nat, HT.sIx_none, List.drop_zero, Nat.sub_zero]
  by_cases h : j ≤ z.length
  · rw [Nat.min_eq_left h]
  · rw [Nat.min_eq_right (show z.length ≤ j by omega), List.take_of_length_le (Nat.le_refl _), List.take_of_length_le (show z.length ≤ j by omega)]
theorem cutL_from (z : List Nat) (i : Nat) : cutL z (some (i : Int)) none = z.drop i := by
  unfold cutL
  rw [HT.sIx_nat, HT.sIx_none]
  by_cases h : i ≤ z.length
  · rw [Nat.min_eq_left h, List.take_of_length_le (by rw [List.length_drop]; omega)]
  · rw [Nat.min_eq_right (show z.length ≤ i by omega), List.drop_eq_nil_of_le (Nat.le_refl z.length), List.drop_eq_nil_of_le (show z.length ≤ i by omega)]
    simp
theorem fits_of {p gone s : List Nat} : Fits (p ++ gone ++ s) (p.length : Int) gone := by
  refine ⟨by omega, by simp only [List.length_append]; omega, ?_⟩
  rw [show ((p.length : Int) + (gone.length : Int)) = ((p.length + gone.length : Nat) : Int) by omega, cutL_nn, List.append_assoc, List.drop_left, Nat.add_sub_cancel_left, List.take_left]
theorem fits_split {z gone : List Nat} {at_ : Int} (h : Fits z at_ gone) : ∃ p s, z = p ++ gone ++ s ∧ at_ = (p.length : Int) := by
  obtain ⟨h1, h2, h3⟩ := h
  obtain ⟨k, rfl⟩ : ∃ k : Nat, at_ = k := ⟨at_.toNat, by omega⟩
  rw [show ((k : Int) + (gone.length : Int)) = ((k + gone.length : Nat) : Int) by omega, cutL_nn, Nat.add_sub_cancel_left] at h3
  refine ⟨z.take k, (z.drop k).drop gone.length, ?_, by rw [List.length_take]; omega⟩
  have e : z.drop k = gone ++ (z.drop k).drop gone.length := by
    conv => lhs; rw [← List.take_append_drop gone.length (z.drop k), h3]
  rw [List.append_assoc, ← e, List.take_append_drop]
theorem done_of {p gone s come : List Nat} : doneL (p ++ gone ++ s) (p.length : Int) gone come = p ++ come ++ s := by
  unfold doneL
  rw [show ((p.length : Int) + (gone.length : Int)) = ((p.length + gone.length : Nat) : Int) by omega, cutL_to, cutL_from]
  rw [show (p ++ gone ++ s).take p.length = p by rw [List.append_assoc, List.take_left]]
  rw [show (p ++ gone ++ s).drop (p.length + gone.length) = s by rw [← List.length_append, List.drop_left]]
def cellAt (ns : List Int) (k : Int) : Int := ns.getD k.toNat 0
/-! ### bases: dicts from numbers to numbers or None -/
def obV : Option Int → V
  | none => .non
  | some b => .int b
def bK (lv : List (Int × Option Int)) : List (Key × V) := lv.map fun p => (.inl p.1, obV p.2)
def look {β : Type} (lv : List (Int × β)) (n : Int) : Option β := (lv.find? fun p => decide (p.1 = n)).map Prod.snd
theorem look_nil {β : Type} (n : Int) : look ([] : List (Int × β)) n = none := rfl
theorem look_cons {β : Type} (a : Int) (b : β) (r : List (Int × β)) (n : Int) : look ((a, b) :: r) n = if a = n then some b else look r n := by
  unfold look
  rw [List.find?_cons]
  by_cases h : a = n
  · simp [h]
  · simp [h]
theorem look_app {β : Type} (n : Int) : ∀ l m : List (Int × β), look (l ++ m) n = (look l n).or (look m n)
  | [], m => rfl
  | (a, b) :: r, m => by
    rw [List.cons_append, look_cons, look_cons]
    by_cases h : a = n
    · rw [if_pos h, if_pos h]; rfl
    · rw [if_neg h, if_neg h]; exact look_app n r m
theorem look_mem {β : Type} {n : Int} {b : β} : ∀ {l : List (Int × β)}, look l n = some b → (n, b) ∈ l
  | [], h => by cases h
  | (a, c) :: r, h => by
    rw [look_cons] at h
    by_cases e : a = n
    · rw [if_pos e] at h
      cases h; subst e; exact List.mem_cons_self
    · rw [if_neg e] at h
      exact List.mem_cons_of_mem _ (look_mem h)
theorem look_of_mem {β : Type} {n : Int} {b : β} : ∀ {l : List (Int × β)}, (l.map Prod.fst).Nodup → (n, b) ∈ l → look l n = some b
  | [], _, h => by cases h
  | (a, c) :: r, nd, h => by
    rw [List.map_cons, List.nodup_cons] at nd
    rw [look_cons]
    rcases List.mem_cons.mp h with e | h
    · cases e; rw [if_pos rfl]
    · rw [if_neg (fun e => nd.1 (by subst e; exact List.mem_map.mpr ⟨_, h, rfl⟩))]
      exact look_of_mem nd.2 h
theorem look_none {β : Type} {n : Int} : ∀ {l : List (Int × β)}, look l n = none ↔ n ∉ l.map Prod.fst
  | [] => by simp [look_nil]
  | (a, c) :: r => by
    rw [look_cons, List.map_cons, List.mem_cons]
    by_cases e : a = n
    · rw [if_pos e]; subst e; simp
    · rw [if_neg e, look_none]
      exact ⟨fun h z => z.elim (fun q => e q.symm) h, fun h z => h (.inr z)⟩
theorem bK_val (lv : List (Int × Option Int)) (n : Int) : valV (bK lv) (.inl n) = (look lv n).map obV := by
  induction lv with
  | nil => rfl
  | cons p r ih =>
    obtain ⟨a, b⟩ := p
    rw [look_cons]
    unfold valV bK at *
    rw [List.map_cons, List.find?_cons]
    by_cases h : a = n
    · subst h; simp
    · have e : decide ((Sum.inl a : Key) = Sum.inl n) = false := decide_eq_false fun q => h (Sum.inl.inj q)
      rw [if_neg h]
      simp only [e]
      exact ih
theorem bK_keys (lv : List (Int × Option Int)) : (bK lv).map (·.1) = (lv.map Prod.fst).map Sum.inl := by
  unfold bK
  rw [List.map_map, List.map_map]
  rfl
theorem bK_put {lv : List (Int × Option Int)} {n : Int} {b : Option Int} (h : look lv n = none) : putK (bK lv) (.inl n) (obV b) = bK (lv ++ [(n, b)]) := by
  rw [putK_new _ (by rw [bK_val, h]; rfl)]
  unfold bK
  rw [List.map_append]
  rfl
theorem bK_len (lv : List (Int × Option Int)) : (bK lv).length = lv.length := List.length_map _
/-- a version's chain -/
inductive Ch (lv : List (Int × Option Int)) : Int → List Int → Prop
  | whole {n : Int} : look lv n = some none → Ch lv n [n]
  | lean {n b : Int} {c : List Int} : look lv n = some (some b) → Ch lv b c → Ch lv n (n :: c)
theorem Ch.inj {lv : List (Int × Option Int)} {n : Int} {c d : List Int} (h : Ch lv n c) (g : Ch lv n d) : c = d := by
  induction h generalizing d with
  | whole e => cases g with
    | whole _ => rfl
    | lean e2 _ => rw [e] at e2; cases e2
  | lean e _ ih => cases g with
    | whole e2 => rw [e] at e2; cases e2
    | lean e2 g2 => rw [e] at e2; cases e2; rw [ih g2]
theorem Ch.look {lv : List (Int × Option Int)} {n : Int} {c : List Int} (h : Ch lv n c) : ∃ o, Pk.look lv n = some o := by
  cases h with
  | whole e => exact ⟨_, e⟩
  | lean e _ => exact ⟨_, e⟩
theorem Ch.head {lv : List (Int × Option Int)} {n : Int} {c : List Int} (h : Ch lv n c) : ∃ r, c = n :: r := by
  cases h with
  | whole e => exact ⟨_, rfl⟩
  | lean e _ => exact ⟨_, rfl⟩
theorem Ch.at {lv : List (Int × Option Int)} {n : Int} {c : List Int} (h : Ch lv n c) : ∀ (i : Nat) (x : Int), c[i]? = some x → Pk.look lv x = some c[i + 1]? := by
  induction h with
  | whole e =>
    intro i x q
    cases i with
    | zero => cases q; exact e
    | succ i => simp at q
  | @lean n b c e hb ih =>
    intro i x q
    cases i with
    | zero =>
      cases q
      obtain ⟨r, rfl⟩ := hb.head
      exact e
    | succ i => exact ih i x q
/-- each chain ends; r bounds how long it is -/
def Wood (lv : List (Int × Option Int)) (rk : Int → Nat) : Prop := ∀ n b, look lv n = some (some b) → (look lv b).isSome ∧ rk b < rk n
theorem Wood.ch {lv : List (Int × Option Int)} {rk : Int → Nat} (w : Wood lv rk) : ∀ (k : Nat) (n : Int), rk n ≤ k → (look lv n).isSome → ∃ c, Ch lv n c ∧ c.length ≤ rk n + 1
  | k, n, hk, h => by
    cases e : look lv n with
    | none => rw [e] at h; cases h
    | some o =>
      cases o with
      | none => exact ⟨[n], .whole e, by show 1 ≤ rk n + 1; omega⟩
      | some b =>
        obtain ⟨h1, h2⟩ := w n b e
        cases k with
        | zero => omega
        | succ k =>
          obtain ⟨c, hc, hl⟩ := Wood.ch w k b (by omega) h1
          exact ⟨n :: c, .lean e hc, by rw [List.length_cons]; omega⟩

theorem menu2 {x y : V} {i : Int} (h : 0 ≤ i ∧ i < 2) : ∃ v, atI [x, y] i = some v ∧ (v = x ∨ v = y) := by
  have h : i = 0 ∨ i = 1 := by omega
  rcases h with rfl | rfl
  · exact ⟨x, rfl, .inl rfl⟩
  · exact ⟨y, rfl, .inr rfl⟩
/-- wood as a law builds it: names f, the k-th leans on one ahead -/
theorem wood_of {many : Nat} {f : Nat → Int} {bl : List (Option Int)} {os : List Nat} (hm : many ≤ 31) (inj : ∀ j k, j < 31 → k < 31 → f j = f k → j = k) (hb : bl.length = many)
    (hlow : ∀ k b, bl[k]? = some (some b) → ∃ j, j < k ∧ b = f j) (ho : ∀ k, k ∈ os ↔ k < many) (nd : os.Nodup) :
    ((os.map fun k => (f k, bl.getD k none)).map Prod.fst).Nodup ∧ ∃ rk : Int → Nat, Wood (os.map fun k => (f k, bl.getD k none)) rk ∧ ∀ n, rk n ≤ 30 := by
  have hnd : ((os.map fun k => (f k, bl.getD k none)).map Prod.fst).Nodup := by
    rw [List.map_map]
    have e : (Prod.fst ∘ fun k => (f k, bl.getD k none)) = f := rfl
    rw [e]
    refine List.Pairwise.map f (fun j k h q => h.2.2 (inj j k h.1 h.2.1 q)) (R := fun j k => j < 31 ∧ k < 31 ∧ j ≠ k) ?_
    have h1 : os.Pairwise fun j k => j ≠ k := nd
    refine List.Pairwise.imp_of_mem ?_ h1
    intro j k hj hk h
    exact ⟨by have := (ho j).mp hj; omega, by have := (ho k).mp hk; omega, h⟩
  refine ⟨hnd, fun n => ((List.range 31).find? fun k => decide (f k = n)).getD 0, ?_, ?_⟩
  · have rkf : ∀ k, k < 31 → ((List.range 31).find? fun j => decide (f j = f k)).getD 0 = k := fun k hk => by
      cases e : (List.range 31).find? fun j => decide (f j = f k) with
      | none => exact absurd (List.find?_eq_none.mp e k (List.mem_range.mpr hk)) (by simp)
      | some j =>
        have h1 := List.find?_some e
        have h2 := List.mem_of_find?_eq_some e
        exact inj j k (List.mem_range.mp h2) hk (of_decide_eq_true h1)
    intro n b h
    obtain ⟨k, hk, e⟩ := List.mem_map.mp (look_mem h)
    injection e with e1 e2
    subst e1
    have hk2 := (ho k).mp hk
    obtain ⟨j, hj, rfl⟩ := hlow k b (by rw [List.getElem?_eq_getElem (by omega)]; rw [List.getD_eq_getElem?_getD, List.getElem?_eq_getElem (by omega)] at e2; exact congrArg some e2)
    have hjm : j ∈ os := (ho j).mpr (by omega)
    refine ⟨?_, ?_⟩
    · rw [look_of_mem hnd (List.mem_map.mpr ⟨j, hjm, rfl⟩)]; rfl
    · show ((List.range 31).find? fun i => decide (f i = f j)).getD 0 < ((List.range 31).find? fun i => decide (f i = f k)).getD 0
      rw [rkf j (by omega), rkf k (by omega)]
      exact hj
  · intro n
    show ((List.range 31).find? fun k => decide (f k = n)).getD 0 ≤ 30
    cases e : (List.range 31).find? fun j => decide (f j = n) with
    | none => exact Nat.zero_le _
    | some j =>
      have := List.mem_range.mp (List.mem_of_find?_eq_some e)
      show j ≤ 30
      omega

/-! ### data: lists of numbers, dicts of bases -/
abbrev inD (c : List Int) : PyData := .list (c.map PyData.int)
theorem ins_dp {K : PySem.W.Frag} {H : Hp} : ∀ c : List Int, DpAll K H (c.map V.int) (c.map PyData.int)
  | [] => .nil
  | i :: r => .cons (.int i) (ins_dp r)
theorem inD_dp {K : PySem.W.Frag} {H : Hp} {p : Addr} {c : List Int} (h : SqL K H p (c.map V.int)) : Dp K H (.ref p) (inD c) := .lst h (ins_dp c)
theorem ins_lay : ∀ c : List Int, PyData.canLayAll0 (c.map PyData.int) = true
  | [] => rfl
  | i :: r => by
    rw [List.map_cons, PyData.canLayAll0, ins_lay r]
    rfl
theorem ins_depth : ∀ c : List Int, PyData.depthAll (c.map PyData.int) ≤ 1
  | [] => by decide
  | i :: r => by
    have := ins_depth r
    rw [List.map_cons, PyData.depthAll]
    have e : (PyData.int i).depth ≤ 1 := by rw [PyData.depth]; decide
    omega
theorem inD_shaped (c : List Int) : SeqAt.shaped (inD c) = true := by
  unfold SeqAt.shaped inD
  rw [PyData.canLay0, ins_lay, PyData.depth]
  have := ins_depth c
  simp
  omega
theorem bK_list (lv : List (Int × Option Int)) : ((bK lv).map fun kv => kV kv.1) = (lv.map Prod.fst).map V.int := by
  unfold bK
  rw [List.map_map, List.map_map]
  rfl
theorem obV_flat (o : Option Int) : flatB (obV o) = true := by cases o <;> rfl
theorem r_neB {K : PySem.W.Frag} {H : Hp} {Q : VK} {p q : Addr} {lv : List (Int × Option Int)} (hp : H p = some (.dK (bK lv))) (hq : H q = some (.dK (bK lv))) (nd : (lv.map Prod.fst).Nodup) (h : Q (.bl false) H) : rNeG K (.ref p) (.ref q) H Q := by
  refine .inr (.inr (.inl ⟨p, q, _, _, rfl, rfl, hp, hq, rfl, fun kv hkv => ?_, h⟩))
  obtain ⟨⟨n, o⟩, hm, rfl⟩ := List.mem_map.mp hkv
  exact ⟨by rw [bK_val, look_of_mem nd hm]; rfl, obV_flat o⟩

/-! ### the change between two texts -/
def lcp : List Nat → List Nat → Nat
  | a :: as, b :: bs => if a = b then lcp as bs + 1 else 0
  | _, _ => 0
theorem lcp_le1 : ∀ a b : List Nat, lcp a b ≤ a.length
  | [], _ => Nat.zero_le _
  | _ :: _, [] => Nat.zero_le _
  | x :: as, y :: bs => by
    rw [lcp, List.length_cons]
    by_cases h : x = y
    · rw [if_pos h]; exact Nat.succ_le_succ (lcp_le1 as bs)
    · rw [if_neg h]; exact Nat.zero_le _
theorem lcp_le2 : ∀ a b : List Nat, lcp a b ≤ b.length
  | [], _ => Nat.zero_le _
  | _ :: _, [] => Nat.zero_le _
  | x :: as, y :: bs => by
    rw [lcp, List.length_cons]
    by_cases h : x = y
    · rw [if_pos h]; exact Nat.succ_le_succ (lcp_le2 as bs)
    · rw [if_neg h]; exact Nat.zero_le _
theorem lcp_lt : ∀ (a b : List Nat) (k : Nat), k ≤ lcp a b → (k < lcp a b ↔ k < a.length ∧ k < b.length ∧ a[k]? = b[k]?)
  | [], b, k, h => by simp [lcp] at h ⊢
  | _ :: _, [], k, h => by simp [lcp] at h ⊢
  | x :: as, y :: bs, k, h => by
    rw [lcp] at h ⊢
    by_cases e : x = y
    · rw [if_pos e] at h ⊢
      subst e
      cases k with
      | zero => simp
      | succ k =>
        have := lcp_lt as bs k (by omega)
        simp only [List.length_cons, List.getElem?_cons_succ]
        exact ⟨fun q => have z := this.mp (by omega); ⟨by omega, by omega, z.2.2⟩, fun q => by have := this.mpr ⟨by omega, by omega, q.2.2⟩; omega⟩
    · rw [if_neg e] at h ⊢
      have : k = 0 := by omega
      subst this
      simp [e]
theorem lcp_take : ∀ (a b : List Nat) (i : Nat), i ≤ a.length → i ≤ b.length → (a.take i = b.take i ↔ i ≤ lcp a b)
  | _, _, 0, _, _ => by simp
  | [], _, i + 1, h, _ => by simp at h
  | _ :: _, [], i + 1, _, h => by simp at h
  | x :: as, y :: bs, i + 1, h1, h2 => by
    rw [lcp, List.take_succ_cons, List.take_succ_cons]
    by_cases e : x = y
    · rw [if_pos e]
      subst e
      have := lcp_take as bs i (by simpa using h1) (by simpa using h2)
      simp only [List.cons.injEq, true_and]
      exact ⟨fun q => Nat.succ_le_succ (this.mp q), fun q => this.mpr (by omega)⟩
    · rw [if_neg e]
      simp [e]
/-- how many signs at the end are left, of so many at most -/
def lcs (a b : List Nat) : Nat := lcp a.reverse b.reverse
def atOf (a b : List Nat) : Nat := lcp a b
def tailOf (a b : List Nat) : Nat := min (min a.length b.length - lcp a b) (lcs a b)
def goneOf (a b : List Nat) : List Nat := (a.drop (atOf a b)).take (a.length - tailOf a b - atOf a b)
def comeOf (a b : List Nat) : List Nat := (b.drop (atOf a b)).take (b.length - tailOf a b - atOf a b)
theorem part3 (a : List Nat) (i k : Nat) (h : i + k ≤ a.length) : a = a.take i ++ (a.drop i).take (a.length - k - i) ++ a.drop (a.length - k) := by
  have e : (a.drop i).drop (a.length - k - i) = a.drop (a.length - k) := by rw [List.drop_drop]; congr 1; omega
  rw [List.append_assoc, ← e, List.take_append_drop, List.take_append_drop]
theorem drop_rev (a : List Nat) (k : Nat) (h : k ≤ a.length) : a.drop (a.length - k) = (a.reverse.take k).reverse := by
  rw [List.take_reverse, List.reverse_reverse]
theorem tail_le (a b : List Nat) : atOf a b + tailOf a b ≤ a.length ∧ atOf a b + tailOf a b ≤ b.length := by
  unfold tailOf atOf
  have := lcp_le1 a b
  have := lcp_le2 a b
  omega
theorem tail_eq (a b : List Nat) : a.drop (a.length - tailOf a b) = b.drop (b.length - tailOf a b) := by
  have h := tail_le a b
  rw [drop_rev a _ (by omega), drop_rev b _ (by omega)]
  congr 1
  refine (lcp_take _ _ _ (by rw [List.length_reverse]; omega) (by rw [List.length_reverse]; omega)).mpr ?_
  unfold tailOf lcs
  omega
theorem head_eq (a b : List Nat) : a.take (atOf a b) = b.take (atOf a b) := (lcp_take a b _ (lcp_le1 a b) (lcp_le2 a b)).mpr (Nat.le_refl _)
/-- what both have alike ahead and behind -/
theorem change_parts (a b : List Nat) : ∃ p s, a = p ++ goneOf a b ++ s ∧ b = p ++ comeOf a b ++ s ∧ p.length = atOf a b ∧ s.length = tailOf a b := by
  have h := tail_le a b
  refine ⟨a.take (atOf a b), a.drop (a.length - tailOf a b), part3 a _ _ (by omega), ?_, by rw [List.length_take]; omega, by rw [List.length_drop]; omega⟩
  rw [head_eq, tail_eq]
  exact part3 b _ _ (by omega)
theorem change_fits (a b : List Nat) : Fits a (atOf a b : Int) (goneOf a b) ∧ doneL a (atOf a b : Int) (goneOf a b) (comeOf a b) = b := by
  obtain ⟨p, s, e1, e2, e3, _⟩ := change_parts a b
  generalize goneOf a b = g at *
  generalize comeOf a b = c at *
  rw [← e3]
  subst e1
  exact ⟨fits_of, by rw [done_of, ← e2]⟩
theorem gone_sub (a b : List Nat) : (goneOf a b).Sublist a := (List.take_sublist _ _).trans (List.drop_sublist _ _)
theorem come_sub (a b : List Nat) : (comeOf a b).Sublist b := (List.take_sublist _ _).trans (List.drop_sublist _ _)
theorem gone_len (a b : List Nat) : (goneOf a b).length + atOf a b + tailOf a b = a.length := by
  obtain ⟨p, s, e1, _, e3, e4⟩ := change_parts a b
  have := congrArg List.length e1
  simp only [List.length_append] at this
  omega
theorem come_len (a b : List Nat) : (comeOf a b).length + atOf a b + tailOf a b = b.length := by
  obtain ⟨p, s, _, e2, e3, e4⟩ := change_parts a b
  have := congrArg List.length e2
  simp only [List.length_append] at this
  omega
theorem join_ok {r : List Nat} {ls : List (List Nat)} (e : Txt.join (Str.ofString "") (ls.map S) = S r) (h : ∀ l ∈ ls, l.length = 1 ∧ Ok l) : Ok r := by
  have e0 : Str.ofString "" = S [] := by decide +kernel
  rw [e0, TL.join_eq] at e
  have e2 := congrArg TL.tl e
  rw [TL.tl_join] at e2
  have e3 : TL.joinL (TL.tl (S [])) ((ls.map S).map TL.tl) = TL.joinL [] ls := by
    have : (ls.map S).map TL.tl = ls := by rw [List.map_map]; exact (List.map_congr_left fun l _ => by simp [TL.tl]).trans (List.map_id ls)
    rw [this]
  rw [e3] at e2
  have e4 : ∀ m : List (List Nat), TL.joinL [] m = m.flatten := fun m => by
    induction m with
    | nil => rfl
    | cons a m ih =>
      cases m with
      | nil => simp [TL.joinL]
      | cons b m => rw [TL.joinL, ih]; rfl
  rw [e4] at e2
  have e5 : r = ls.flatten := by
    have : TL.tl (S r) = r := by simp [TL.tl]
    rw [this] at e2
    exact e2.symm
  subst e5
  intro c hc
  obtain ⟨l, hl, hcl⟩ := List.mem_flatten.mp hc
  exact (h l hl).2 c hcl
theorem r_join1 {K : PySem.W.Frag} {D : Addr} {H : Hp} {Q : VK} {ls : List (List Nat)} (hl : ∀ l ∈ ls, l.length = 1 ∧ Ok l) (e : H D = some (.lst (ls.map fun l => V.str (S l)))) (hn : ls.length ≤ 1000000)
    (h : ∀ r : List Nat, r.length = ls.length → Ok r → Q (.str (S r)) H) : rJoin K (.str (Str.ofString "")) [.ref D] H Q := by
  obtain ⟨r, er⟩ := S_of (Txt.join (Str.ofString "") (ls.map S))
  have hs : (ls.map S).map Str.length = ls.map fun _ => 1 := by
    rw [List.map_map]
    refine List.map_congr_left fun l h => ?_
    show (S l).length = 1
    rw [S_len, (hl l h).1]
  have sum1 : ∀ m : List (List Nat), (m.map fun _ => 1).sum = m.length := fun m => by
    induction m with
    | nil => rfl
    | cons a m ih => rw [List.map_cons, List.sum_cons, ih, List.length_cons]; omega
  refine ⟨_, D, ls.map S, rfl, rfl, .inl (.of (by rw [List.map_map]; exact e)), ?_, ?_⟩
  · rw [hs, sum1, List.length_map]
    show ls.length + ls.length * 0 ≤ 16777216
    omega
  · rw [er]
    refine h r ?_ (join_ok er hl)
    have q := size_glued (Str.ofString "") (ls.map S)
    rw [hs, sum1, List.length_map] at q
    have q2 : (S r).length = ls.length + (ls.length - 1) * (Str.ofString "").length := by rw [← er]; exact q
    rw [S_len] at q2
    have q3 : (Str.ofString "").length = 0 := by decide +kernel
    rw [q3] at q2
    omega

/-- all that both have alike, ahead and behind -/
def mostOf (a b : List Nat) : Nat := min (min a.length b.length) (lcp a b + lcs a b)
theorem most_eq (a b : List Nat) : mostOf a b = atOf a b + tailOf a b := by
  unfold mostOf atOf tailOf
  have := lcp_le1 a b
  have := lcp_le2 a b
  omega
theorem drop_eq_iff (a b : List Nat) (k : Nat) (ha : k ≤ a.length) (hb : k ≤ b.length) : a.drop (a.length - k) = b.drop (b.length - k) ↔ k ≤ lcs a b := by
  rw [drop_rev a k ha, drop_rev b k hb]
  rw [show (a.reverse.take k).reverse = (b.reverse.take k).reverse ↔ a.reverse.take k = b.reverse.take k from ⟨fun h => List.reverse_inj.mp h, fun h => by rw [h]⟩]
  exact lcp_take _ _ _ (by rw [List.length_reverse]; exact ha) (by rw [List.length_reverse]; exact hb)
def mo (n l i : Nat) : Nat := if i = 0 then 0 else min n (i - 1 + l)
theorem mo_succ (n l i : Nat) : mo n l (i + 1) = min n (i + l) := by
  unfold mo
  rw [if_neg (by omega), Nat.add_sub_cancel]
theorem mo_le (n l i : Nat) : mo n l i ≤ min n (i + l) := by
  unfold mo
  by_cases h : i = 0
  · rw [if_pos h]; omega
  · rw [if_neg h]; omega
/-- the signs at the place differ, or a text ends there -/
theorem at_differ (a b : List Nat) (h1 : atOf a b < a.length) (h2 : atOf a b < b.length) : a[atOf a b]? ≠ b[atOf a b]? := fun e => by
  have := (lcp_lt a b (lcp a b) (Nat.le_refl _)).mpr ⟨h1, h2, e⟩
  omega
/-- so do the last ones of what goes and of what comes -/
theorem last_differ (a b : List Nat) (h1 : goneOf a b ≠ []) (h2 : comeOf a b ≠ []) : (goneOf a b).getLast? ≠ (comeOf a b).getLast? := by
  have g1 := gone_len a b
  have g2 := come_len a b
  have p1 : 0 < (goneOf a b).length := List.length_pos_iff.mpr h1
  have p2 : 0 < (comeOf a b).length := List.length_pos_iff.mpr h2
  obtain ⟨p, s, e1, e2, e3, e4⟩ := change_parts a b
  intro e
  have hk : lcs a b ≤ tailOf a b := by
    unfold tailOf atOf at *
    omega
  have hl := (lcp_lt a.reverse b.reverse (lcs a b) (Nat.le_refl _)).mpr
  rw [List.length_reverse, List.length_reverse] at hl
  have hz : tailOf a b = lcs a b := Nat.le_antisymm (Nat.min_le_right _ _) hk
  have idx : ∀ (g : List Nat), 0 < g.length → (p ++ g ++ s).reverse[lcs a b]? = g.getLast? := fun g hg => by
    rw [List.reverse_append, List.getElem?_append_right (by rw [List.length_reverse]; omega), List.length_reverse, show lcs a b - s.length = 0 by omega, List.reverse_append, List.getElem?_append_left (by rw [List.length_reverse]; omega), List.getElem?_reverse (by omega), List.getLast?_eq_getElem?, Nat.sub_zero]
  have := hl ⟨by omega, by omega, by
    have i1 := idx _ p1
    have i2 := idx _ p2
    rw [← e1] at i1
    rw [← e2] at i2
    rw [i1, i2]
    exact e⟩
  unfold lcs at *
  omega
end Pk
/-! PkF: the mathematics of trees of versions: chains, how far two versions stand apart, reach and middle. -/
namespace Pk
open PySem PySem.Spec L2
/-- numbers without a double among others are not more -/
theorem nodup_len {α : Type} : ∀ (l m : List α), l.Nodup → (∀ x ∈ l, x ∈ m) → l.length ≤ m.length
  | [], _, _, _ => Nat.zero_le _
  | a :: l, m, nd, h => by
    rw [List.nodup_cons] at nd
    obtain ⟨s, t, rfl⟩ := List.append_of_mem (h a List.mem_cons_self)
    have := nodup_len l (s ++ t) nd.2 fun x hx => by
      have := h x (List.mem_cons_of_mem _ hx)
      rcases List.mem_append.mp this with q | q
      · exact List.mem_append_left _ q
      · rcases List.mem_cons.mp q with q | q
        · subst q; exact absurd hx nd.1
        · exact List.mem_append_right _ q
    simp only [List.length_append, List.length_cons] at *
    omega
abbrev keysOf {β : Type} (lv : List (Int × β)) : List Int := lv.map Prod.fst
theorem look_some {β : Type} {lv : List (Int × β)} {n : Int} : (look lv n).isSome ↔ n ∈ keysOf lv := by
  cases e : look lv n with
  | none => have := look_none.mp e; simp [this]
  | some b =>
    have : n ∈ keysOf lv := List.mem_map.mpr ⟨(n, b), look_mem e, rfl⟩
    simp [this]
/-! ### chains -/
section
variable {lv : List (Int × Option Int)}
/-- behind each of its numbers a chain is that number's -/
theorem Ch.suffix {n : Int} {c : List Int} (h : Ch lv n c) : ∀ {x : Int} {p s : List Int}, c = p ++ x :: s → Ch lv x (x :: s) := by
  induction h with
  | @whole n e =>
    intro x p s q
    cases p with
    | nil => cases q; exact .whole e
    | cons a p => simp at q
  | @lean n b c e hb ih =>
    intro x p s q
    cases p with
    | nil => cases q; exact .lean e hb
    | cons a p =>
      injection q with q1 q2
      exact ih q2
theorem Ch.mem {n : Int} {c : List Int} (h : Ch lv n c) {x : Int} (hx : x ∈ c) : ∃ p s, c = p ++ x :: s ∧ Ch lv x (x :: s) := by
  obtain ⟨p, s, e⟩ := List.append_of_mem hx
  exact ⟨p, s, e, h.suffix e⟩
theorem Ch.nodup {n : Int} {c : List Int} (h : Ch lv n c) : c.Nodup := by
  induction h with
  | whole e => simp
  | @lean n b c e hb ih =>
    rw [List.nodup_cons]
    refine ⟨fun hn => ?_, ih⟩
    obtain ⟨p, s, e2, h2⟩ := hb.mem hn
    have h3 : Ch lv n (n :: c) := .lean e hb
    have := congrArg List.length (h2.inj h3)
    have := congrArg List.length e2
    simp only [List.length_append, List.length_cons] at *
    omega
theorem Ch.keys {n : Int} {c : List Int} (h : Ch lv n c) : ∀ x ∈ c, x ∈ keysOf lv := fun x hx => by
  obtain ⟨p, s, _, h2⟩ := h.mem hx
  obtain ⟨o, e⟩ := h2.look
  exact look_some.mp (by rw [e]; rfl)
theorem Ch.len {n : Int} {c : List Int} (h : Ch lv n c) : c.length ≤ lv.length := by
  have := nodup_len c (keysOf lv) h.nodup h.keys
  rw [List.length_map] at this
  exact this
/-- the last of a chain -/
def lastOf (c : List Int) : Int := c.getLast?.getD 0
theorem lastOf_app (p : List Int) (x : Int) (s : List Int) : lastOf (p ++ x :: s) = lastOf (x :: s) := by
  unfold lastOf
  rw [List.getLast?_append]
  cases e : (x :: s).getLast? with
  | none => simp at e
  | some y => rfl
theorem lastOf_cons (x y : Int) (s : List Int) : lastOf (x :: y :: s) = lastOf (y :: s) := lastOf_app [x] y s
theorem Ch.last {n : Int} {c : List Int} (h : Ch lv n c) : lastOf c ∈ c ∧ Pk.look lv (lastOf c) = some none := by
  induction h with
  | @whole n e => exact ⟨List.mem_cons_self, e⟩
  | @lean n b c e hb ih =>
    obtain ⟨r, rfl⟩ := hb.head
    rw [lastOf_cons]
    exact ⟨List.mem_cons_of_mem _ ih.1, ih.2⟩
theorem Ch.last_of_mem {n x : Int} {c d : List Int} (h : Ch lv n c) (hx : x ∈ c) (hd : Ch lv x d) : lastOf d = lastOf c := by
  obtain ⟨p, s, e, h2⟩ := h.mem hx
  rw [hd.inj h2, e, lastOf_app]
/-! ### how far apart -/
def btw : List Int → List Int → Nat
  | [], _ => 0
  | x :: r, c => if x ∈ c then c.idxOf x else btw r c + 1
theorem idx_app {x : Int} {p s : List Int} (h : x ∉ p) : (p ++ x :: s).idxOf x = p.length := by
  rw [List.idxOf_append, if_neg h, List.idxOf_cons_self]
  omega
/-- two chains of a tree: what they have ahead of the first version on both -/
theorem split2 {n m : Int} {c d : List Int} (h : Ch lv n c) (g : Ch lv m d) (e : lastOf c = lastOf d) :
    ∃ p q z t, c = p ++ z :: t ∧ d = q ++ z :: t ∧ (∀ x ∈ p, x ∉ d) ∧ (∀ x ∈ q, x ∉ c) := by
  have key : ∀ (c1 : List Int), (∃ c0, c = c0 ++ c1) → (∃ x ∈ c1, x ∈ d) → ∃ p z t, c1 = p ++ z :: t ∧ z ∈ d ∧ ∀ x ∈ p, x ∉ d := fun c1 => by
    induction c1 with
    | nil => intro _ ⟨x, hx, _⟩; cases hx
    | cons a r ih =>
      intro ⟨c0, e0⟩ ⟨x, hx, hd⟩
      by_cases ha : a ∈ d
      · exact ⟨[], a, r, rfl, ha, fun _ z => by cases z⟩
      · rcases List.mem_cons.mp hx with q | q
        · subst q; exact absurd hd ha
        · obtain ⟨p, z, t, e1, e2, e3⟩ := ih ⟨c0 ++ [a], by rw [e0]; simp⟩ ⟨x, q, hd⟩
          exact ⟨a :: p, z, t, by rw [e1]; rfl, e2, fun y hy => by
            rcases List.mem_cons.mp hy with q | q
            · subst q; exact ha
            · exact e3 y q⟩
  obtain ⟨p, z, t, e1, hz, hp⟩ := key c ⟨[], rfl⟩ ⟨lastOf c, h.last.1, by rw [e]; exact g.last.1⟩
  obtain ⟨q, t2, e2, h2⟩ := g.mem hz
  have h1 := h.suffix e1
  have et := h1.inj h2
  injection et with _ et
  subst et
  refine ⟨p, q, z, t, e1, e2, hp, fun x hx hc => ?_⟩
  rw [e1] at hc
  rcases List.mem_append.mp hc with k | k
  · exact hp x k (by rw [e2]; exact List.mem_append_left _ hx)
  · have nd := g.nodup
    rw [e2, List.nodup_append] at nd
    exact nd.2.2 x hx x k rfl
theorem btw_split {p q t : List Int} {z : Int} (hp : ∀ x ∈ p, x ∉ q ++ z :: t) (hz : z ∉ q) : btw (p ++ z :: t) (q ++ z :: t) = p.length + q.length := by
  induction p with
  | nil =>
    show (if z ∈ q ++ z :: t then (q ++ z :: t).idxOf z else _) = _
    rw [if_pos (by simp), idx_app hz]
    simp
  | cons a p ih =>
    show (if a ∈ q ++ z :: t then _ else btw (p ++ z :: t) (q ++ z :: t) + 1) = _
    rw [if_neg (hp a List.mem_cons_self), ih fun x hx => hp x (List.mem_cons_of_mem _ hx), List.length_cons]
    omega
theorem btw_val {n m : Int} {c d : List Int} (h : Ch lv n c) (g : Ch lv m d) (e : lastOf c = lastOf d) : ∃ p q z t, c = p ++ z :: t ∧ d = q ++ z :: t ∧ btw c d = p.length + q.length ∧ btw d c = p.length + q.length := by
  obtain ⟨p, q, z, t, e1, e2, hp, hq⟩ := split2 h g e
  refine ⟨p, q, z, t, e1, e2, ?_, ?_⟩
  · rw [e1, e2]
    exact btw_split (by rw [← e2]; exact hp) fun hz => hq z hz (by rw [e1]; simp)
  · rw [e1, e2, btw_split (by rw [← e1]; exact hq) fun hz => hp z hz (by rw [e2]; simp)]
    omega
theorem btw_comm {n m : Int} {c d : List Int} (h : Ch lv n c) (g : Ch lv m d) (e : lastOf c = lastOf d) : btw c d = btw d c := by
  obtain ⟨_, _, _, _, _, _, e1, e2⟩ := btw_val h g e
  rw [e1, e2]
theorem btw_le {n m : Int} {c d : List Int} (h : Ch lv n c) (g : Ch lv m d) (e : lastOf c = lastOf d) : btw c d + 2 ≤ c.length + d.length := by
  obtain ⟨p, q, z, t, e1, e2, e3, _⟩ := btw_val h g e
  have := congrArg List.length e1
  have := congrArg List.length e2
  simp only [List.length_append, List.length_cons] at *
  omega
/-- a step to the base, seen from d -/
theorem btw_step {n b m : Int} {c d : List Int} (e : look lv n = some (some b)) (hb : Ch lv b c) (g : Ch lv m d) (el : lastOf c = lastOf d) :
    (n ∈ d ∧ btw c d = btw (n :: c) d + 1) ∨ (n ∉ d ∧ btw (n :: c) d = btw c d + 1) := by
  by_cases hn : n ∈ d
  · left
    refine ⟨hn, ?_⟩
    obtain ⟨q, s, ed, h2⟩ := g.mem hn
    have h3 := h2.inj (.lean e hb)
    injection h3 with _ h3
    subst h3
    have nd := g.nodup
    obtain ⟨r, rfl⟩ := hb.head
    rw [ed, List.nodup_append] at nd
    have hq1 : n ∉ q := fun k => nd.2.2 n k n List.mem_cons_self rfl
    have hq2 : b ∉ q := fun k => nd.2.2 b k b (by simp) rfl
    have hnb : n ≠ b := fun k => by
      have := nd.2.1
      rw [List.nodup_cons] at this
      exact this.1 (by rw [k]; simp)
    show btw (b :: r) d = (if n ∈ d then d.idxOf n else _) + 1
    rw [if_pos hn]
    show (if b ∈ d then d.idxOf b else _) = _
    rw [if_pos (by rw [ed]; simp), ed, idx_app hq1, show q ++ n :: b :: r = (q ++ [n]) ++ b :: r by simp, idx_app (by simp only [List.mem_append, List.mem_singleton]; exact fun k => k.elim hq2 fun z => hnb z.symm)]
    simp
  · right
    refine ⟨hn, ?_⟩
    show (if n ∈ d then _ else btw c d + 1) = _
    rw [if_neg hn]
theorem btw_self {m : Int} {d : List Int} (g : Ch lv m d) : btw d d = 0 := by
  obtain ⟨r, rfl⟩ := g.head
  show (if m ∈ m :: r then (m :: r).idxOf m else _) = 0
  rw [if_pos List.mem_cons_self, List.idxOf_cons_self]
theorem btw_zero {n m : Int} {c d : List Int} (h : Ch lv n c) (g : Ch lv m d) (e : lastOf c = lastOf d) (z : btw c d = 0) : n = m := by
  obtain ⟨p, q, w, t, e1, e2, e3, _⟩ := btw_val h g e
  have hp : p = [] := List.eq_nil_of_length_eq_zero (by omega)
  have hq : q = [] := List.eq_nil_of_length_eq_zero (by omega)
  subst hp hq
  obtain ⟨r, rfl⟩ := h.head
  obtain ⟨s, rfl⟩ := g.head
  injection e1 with e1 _
  injection e2 with e2 _
  rw [e1, e2]
end
/-! ### trees -/
structure Forest (lv : List (Int × Option Int)) : Prop where
  nd : (keysOf lv).Nodup
  wf : ∃ rk, Wood lv rk
  len : lv.length ≤ 1000
section
variable {lv : List (Int × Option Int)}
theorem Forest.ch (F : Forest lv) {n : Int} (h : n ∈ keysOf lv) : ∃ c, Ch lv n c := by
  obtain ⟨rk, w⟩ := F.wf
  obtain ⟨c, hc, _⟩ := w.ch (rk n) n (Nat.le_refl _) (look_some.mpr h)
  exact ⟨c, hc⟩
def Adj (lv : List (Int × Option Int)) (x y : Int) : Prop := look lv x = some (some y) ∨ look lv y = some (some x)
/-- x stands so far from the version whose chain is d, in its tree -/
def Far (lv : List (Int × Option Int)) (d : List Int) (x : Int) (k : Nat) : Prop := ∃ c, Ch lv x c ∧ lastOf c = lastOf d ∧ btw c d = k
theorem Far.inj {d : List Int} {x : Int} {j k : Nat} (h : Far lv d x j) (g : Far lv d x k) : j = k := by
  obtain ⟨c, hc, _, e⟩ := h
  obtain ⟨c2, hc2, _, e2⟩ := g
  rw [hc.inj hc2] at e
  omega
theorem Far.key {d : List Int} {x : Int} {k : Nat} (h : Far lv d x k) : x ∈ keysOf lv := by
  obtain ⟨c, hc, _⟩ := h
  obtain ⟨r, rfl⟩ := hc.head
  exact hc.keys x List.mem_cons_self
theorem Far.len {m : Int} {d : List Int} (g : Ch lv m d) {x : Int} {k : Nat} (h : Far lv d x k) : k ≤ 2 * lv.length := by
  obtain ⟨c, hc, e, rfl⟩ := h
  have := btw_le hc g e
  have := hc.len
  have := g.len
  omega
/-- a neighbour stands one farther or one nearer -/
theorem Far.adj {m : Int} {d : List Int} (g : Ch lv m d) (F : Forest lv) {x y : Int} {k : Nat} (h : Far lv d x k) (a : Adj lv x y) : ∃ j, Far lv d y j ∧ (j = k + 1 ∨ k = j + 1) := by
  obtain ⟨c, hc, e, rfl⟩ := h
  rcases a with a | a
  · cases hc with
    | whole e2 => rw [e2] at a; cases a
    | @lean _ b c e2 hb =>
      rw [e2] at a; cases a
      obtain ⟨r, rfl⟩ := hb.head
      rw [lastOf_cons] at e
      refine ⟨_, ⟨_, hb, e, rfl⟩, ?_⟩
      rcases btw_step e2 hb g e with ⟨_, q⟩ | ⟨_, q⟩ <;> omega
  · have hy : Ch lv y (y :: c) := .lean a hc
    obtain ⟨r, rfl⟩ := hc.head
    refine ⟨_, ⟨_, hy, by rw [lastOf_cons]; exact e, rfl⟩, ?_⟩
    rcases btw_step a hc g e with ⟨_, q⟩ | ⟨_, q⟩ <;> omega
/-- who stands farther than nought has a neighbour that stands one nearer -/
theorem Far.nearer {m : Int} {d : List Int} (g : Ch lv m d) {y : Int} {k : Nat} (h : Far lv d y (k + 1)) : ∃ x, Far lv d x k ∧ Adj lv x y := by
  obtain ⟨c, hc, e, ek⟩ := h
  by_cases hy : y ∈ d
  · obtain ⟨q, s, ed, h2⟩ := g.mem hy
    have ec := hc.inj h2
    subst ec
    have nd := g.nodup
    rw [ed, List.nodup_append] at nd
    have hq : y ∉ q := fun k => nd.2.2 y k y List.mem_cons_self rfl
    have el : btw (y :: s) d = q.length := by
      show (if y ∈ d then d.idxOf y else _) = _
      rw [if_pos hy, ed, idx_app hq]
    rw [el] at ek
    obtain ⟨q2, x, rfl⟩ : ∃ q2 x, q = q2 ++ [x] := ⟨q.dropLast, q.getLast (by intro z; rw [z] at ek; cases ek), (List.dropLast_concat_getLast _).symm⟩
    have ed2 : d = q2 ++ x :: (y :: s) := by rw [ed]; simp
    have hx := g.suffix ed2
    have hq3 : x ∉ q2 := fun k => by
      have := nd.1
      rw [List.nodup_append] at this
      exact this.2.2 x k x List.mem_cons_self rfl
    refine ⟨x, ⟨_, hx, by rw [ed2, lastOf_app], ?_⟩, ?_⟩
    · show (if x ∈ d then d.idxOf x else _) = _
      rw [if_pos (by rw [ed2]; simp), ed2, idx_app hq3]
      simp at ek
      omega
    · cases hx with
      | lean e3 hb =>
        obtain ⟨r, er⟩ := hb.head
        injection er with er _
        subst er
        exact .inl e3
  · cases hc with
    | whole e2 =>
      exfalso
      apply hy
      have : lastOf [y] = y := rfl
      rw [this] at e
      rw [e]
      exact g.last.1
    | @lean _ b c e2 hb =>
      obtain ⟨r, rfl⟩ := hb.head
      rw [lastOf_cons] at e
      refine ⟨b, ⟨_, hb, e, ?_⟩, .inr e2⟩
      rcases btw_step e2 hb g e with ⟨q, _⟩ | ⟨_, q⟩
      · exact absurd q hy
      · omega
/-- a version's reach -/
def RS (lv : List (Int × Option Int)) (n : Int) (r : Nat) : Prop := ∃ d, Ch lv n d ∧ (∃ x, Far lv d x r) ∧ ∀ x k, Far lv d x k → k ≤ r
theorem RS.inj {n : Int} {r s : Nat} (h : RS lv n r) (g : RS lv n s) : r = s := by
  obtain ⟨d, hd, ⟨x, hx⟩, hm⟩ := h
  obtain ⟨d2, hd2, ⟨y, hy⟩, hm2⟩ := g
  have := hd.inj hd2
  subst this
  have := hm _ _ hy
  have := hm2 _ _ hx
  omega
/-- in the tree of n -/
def InTree (lv : List (Int × Option Int)) (n x : Int) : Prop := ∃ c d, Ch lv n c ∧ Ch lv x d ∧ lastOf d = lastOf c
/-- the middle of a version's tree -/
def MS (lv : List (Int × Option Int)) (n m : Int) : Prop := InTree lv n m ∧ ∃ r, RS lv m r ∧ ∀ x s, InTree lv n x → RS lv x s → r ≤ s ∧ (s = r → x ≤ m)
end
end Pk
/-! PkG: dicts that are walked (locked meanwhile), dicts with marks, lists of numbers. -/
namespace Pk
open PySem PySem.Spec L2
/-- the heap but for what stands at d -/
def Off (d : Addr) (H H1 : Hp) : Prop := (∃ o, H1 d = some o) ∧ ∀ b o, b ≠ d → H b = some o → H1 b = some o
section
variable {d p : Addr} {H0 H H1 : Hp} {u o : HO}
theorem Off.of (s : Same H0 H) (c : Chg d u H H1) : Off d H0 H1 := ⟨⟨_, c.1⟩, fun b o n e => c.2 b o n (s b o e)⟩
theorem Off.sm (f : Off d H0 H) (s : Same H H1) : Off d H0 H1 := ⟨f.1.imp fun o e => s _ _ e, fun b o n e => s _ _ (f.2 b o n e)⟩
theorem Off.ne (f : Off d H0 H) (e : H p = none) : p ≠ d := fun z => by
  obtain ⟨o, h⟩ := f.1
  rw [z, h] at e; cases e
theorem Off.free (f : Off d H0 H) (e : H p = none) : H0 p = none := by
  cases h : H0 p with
  | none => rfl
  | some o => have := f.2 p o (f.ne e) h; rw [e] at this; cases this
theorem Off.chg (f : Off d H0 H) (e : H0 p = none) (np : p ≠ d) (c : Chg p o H H1) : Off d H0 H1 := ⟨f.1.imp fun o h => c.2 d o np.symm h, fun b o n h => c.2 b o (ne_of_none h e) (f.2 b o n h)⟩
theorem Off.back (f : Off d H0 H) (e : H0 d = some u) (c : Chg d u H H1) : Same H0 H1 := fun b o h => by
  by_cases z : b = d
  · subst z; rw [e] at h; cases h; exact c.1
  · exact c.2 b o z (f.2 b o z h)
theorem Off.at (f : Off d H0 H) (e : H0 p = some o) (np : p ≠ d) : H p = some o := f.2 p o np e
theorem ne_val {a b : Addr} {H : Hp} {x y : HO} (h1 : H a = some x) (h2 : H b = some y) (n : x ≠ y) : a ≠ b := fun e => by
  subst e; rw [h1] at h2; cases h2; exact n rfl
end
section
variable {d : Addr} {kvs : List (Key × V)} {H : Hp} {nx : St → Hp → Prop} {rt : VK} {bk ct : St → Hp → Prop} {σ : St} {t : TS} {te : TE} {Q : VK}
/-- at the end of a lock -/
def Un (d : Addr) (od : Obj) (kvs : List (Key × V)) (F : Hp → Prop) (H : Hp) : Prop := H d = some (.frz od (.dK kvs)) ∧ F (upd H d (.dK kvs))
theorem un {od : Obj} {F : Hp → Prop} (e : H d = some (.frz od (.dK kvs))) (h : ∀ H2, Chg d (.dK kvs) H H2 → F H2) : Un d od kvs F H := ⟨e, h _ chg_upd⟩
theorem r_lock (e : H d = some (.dK kvs)) (h : ∀ od H1, Chg d (.frz od (.dK kvs)) H H1 → t ⟨fun σ' H' => Un d od kvs (nx σ') H', fun v H' => Un d od kvs (rt v) H', fun σ' H' => Un d od kvs (bk σ') H', fun σ' H' => Un d od kvs (ct σ') H'⟩ σ H1) :
    tLock t ⟨nx, rt, bk, ct⟩ σ H := ⟨d, _, e, trivial, fun od => h od _ chg_upd⟩
theorem r_lockE (e : H d = some (.dK kvs)) (h : ∀ od H1, Chg d (.frz od (.dK kvs)) H H1 → te σ H1 fun v H' => Un d od kvs (Q v) H') : tLockE te σ H Q := ⟨d, _, e, trivial, fun od => h od _ chg_upd⟩
theorem r_disp1 {ta tb : TE} {n : Int} {v : V} (ha : ∀ H1 (Q : VK), Q (.int n) H1 → ta σ H1 Q) (hb : ∀ H1 (Q : VK), Q v H1 → tb σ H1 Q) (h : Nw H (.dK [(.inl n, v)]) Q) : tDisp [(ta, tb)] σ H Q := by
  intro p hp
  show ta σ (upd H p (.dK [])) fun x H1 => _
  refine ha _ _ (hb _ _ ?_)
  refine ⟨upd_same, [(.inl n, v)], rfl, (show 1 ≤ 15 by decide), ?_⟩
  have e : upd (upd H p (.dK [])) p (.dK (mergeK [] [(Sum.inl n, v)])) = upd H p (.dK [(.inl n, v)]) := by
    rw [upd_upd]
    rfl
  rw [e]
  exact h.go p hp
end
/-! ### dicts from numbers to values -/
def nK (f : Int → V) (ks : List Int) : List (Key × V) := ks.map fun n => (.inl n, f n)
theorem nK_val (f : Int → V) (n : Int) : ∀ ks : List Int, valV (nK f ks) (.inl n) = if n ∈ ks then some (f n) else none
  | [] => rfl
  | a :: r => by
    have ih := nK_val f n r
    unfold valV nK at *
    rw [List.map_cons, List.find?_cons]
    by_cases h : a = n
    · subst h; simp
    · have e : decide ((Sum.inl a : Key) = Sum.inl n) = false := decide_eq_false fun q => h (Sum.inl.inj q)
      simp only [e]
      rw [ih]
      have h2 : n ≠ a := fun z => h z.symm
      simp [h2]
theorem nK_in {f : Int → V} {n : Int} {ks : List Int} (h : n ∈ ks) : valV (nK f ks) (.inl n) = some (f n) := by rw [nK_val, if_pos h]
theorem nK_put {f : Int → V} {n : Int} {ks : List Int} (h : n ∉ ks) : putK (nK f ks) (.inl n) (f n) = nK f (ks ++ [n]) := by
  rw [putK_new _ (by rw [nK_val, if_neg h])]
  unfold nK
  rw [List.map_append]
  rfl
theorem nK_len (f : Int → V) (ks : List Int) : (nK f ks).length = ks.length := List.length_map _
theorem nK_congr {f g : Int → V} {ks : List Int} (h : ∀ n ∈ ks, f n = g n) : nK f ks = nK g ks := List.map_congr_left fun n hn => by rw [h n hn]
theorem bK_at {lv : List (Int × Option Int)} {i : Nat} (h : i < lv.length) : (bK lv)[i]? = some (.inl lv[i].1, obV lv[i].2) := by
  unfold bK
  rw [List.getElem?_map, List.getElem?_eq_getElem h]
  rfl
theorem nK_at {f : Int → V} {ks : List Int} {i : Nat} (h : i < ks.length) : (nK f ks)[i]? = some (.inl ks[i], f ks[i]) := by
  unfold nK
  rw [List.getElem?_map, List.getElem?_eq_getElem h]
  rfl
theorem take_succ {α : Type} {l : List α} {i : Nat} (h : i < l.length) : l.take (i + 1) = l.take i ++ [l[i]] := by
  rw [List.take_add_one, List.getElem?_eq_getElem h]; rfl
def fu {α : Type} (f : Int → α) (k : Int) (v : α) (n : Int) : α := if n = k then v else f n
theorem fu_eq {α : Type} {f : Int → α} {k : Int} {v : α} : fu f k v k = v := if_pos rfl
theorem fu_ne {α : Type} {f : Int → α} {k n : Int} {v : α} (h : n ≠ k) : fu f k v n = f n := if_neg h
theorem last_at {lv : List (Int × Option Int)} {c : List Int} {x : Int} (hc : Ch lv x c) : atI (c.map V.int) (-1) = some (.int (lastOf c)) := by
  obtain ⟨r, y, rfl⟩ : ∃ r y, c = r ++ [y] := by
    obtain ⟨s, rfl⟩ := hc.head
    exact ⟨_, _, (List.dropLast_concat_getLast (List.cons_ne_nil _ _)).symm⟩
  rw [lastOf_app, List.map_append]
  exact atI_last _ _
theorem eqv_inD : ∀ c d : List Int, PyData.eqv (inD c) (inD d) = decide (c = d)
  | [], [] => rfl
  | [], b :: d => rfl
  | a :: c, [] => rfl
  | a :: c, b :: d => by
    have ih := eqv_inD c d
    unfold inD at *
    rw [PyData.eqv] at ih
    rw [List.map_cons, List.map_cons, PyData.eqv, PyData.eqvAll, ih]
    by_cases h : a = b
    · subst h
      by_cases h2 : c = d
      · subst h2; simp [PyData.eqv]
      · simp [h2]
    · have : PyData.eqv (.int a) (.int b) = false := by simp [PyData.eqv, h]
      rw [this]
      simp [h]
end Pk
/-! PkP: a pack in the heap, and what it stands for. -/
namespace Pk
open PySem PySem.Spec L2
/-! ### the instance -/
def fsP (b : Int) (dl ds : Addr) (co : Int) : List (Str × V) := [("bound", .int b), ("leans", .ref dl), ("stock", .ref ds), ("coming", .int co)]
structure PkOk (A : Ad) : Prop where
  cl : Cls A.K A.cPack
  nb : NoAttr A.K A.cPack "bound"
  nl : NoAttr A.K A.cPack "leans"
  ns : NoAttr A.K A.cPack "stock"
  nc : NoAttr A.K A.cPack "coming"
theorem lkS {b : Int} {dl ds : Addr} {co : Int} {m : Str} : (fsP b dl ds co).lookup m = if m = "bound" then some (.int b) else if m = "leans" then some (.ref dl) else if m = "stock" then some (.ref ds) else if m = "coming" then some (.int co) else none := by
  unfold fsP
  simp only [List.lookup]
  have e : ∀ x y : Str, (x == y) = decide (x = y) := fun x y => by
    by_cases h : x = y
    · rw [decide_eq_true h]; exact beq_iff_eq.mpr h
    · rw [decide_eq_false h]; exact beq_eq_false_iff_ne.mpr h
  by_cases h1 : m = "bound"
  · simp [e, h1]
  · by_cases h2 : m = "leans"
    · rw [if_neg h1, if_pos h2, e, e, decide_eq_false h1, decide_eq_true h2]
    · by_cases h3 : m = "stock"
      · rw [if_neg h1, if_neg h2, if_pos h3, e, e, e, decide_eq_false h1, decide_eq_false h2, decide_eq_true h3]
      · by_cases h4 : m = "coming"
        · rw [if_neg h1, if_neg h2, if_neg h3, if_pos h4, e, e, e, e, decide_eq_false h1, decide_eq_false h2, decide_eq_false h3, decide_eq_true h4]
        · rw [if_neg h1, if_neg h2, if_neg h3, if_neg h4, e, e, e, e, decide_eq_false h1, decide_eq_false h2, decide_eq_false h3, decide_eq_false h4]
theorem lkB {b : Int} {dl ds : Addr} {co : Int} : (fsP b dl ds co).lookup ("bound" : Str) = some (.int b) := by rw [lkS, if_pos rfl]
theorem lkL {b : Int} {dl ds : Addr} {co : Int} : (fsP b dl ds co).lookup ("leans" : Str) = some (.ref dl) := by rw [lkS, if_neg (by decide +kernel), if_pos rfl]
theorem lkK {b : Int} {dl ds : Addr} {co : Int} : (fsP b dl ds co).lookup ("stock" : Str) = some (.ref ds) := by rw [lkS, if_neg (by decide +kernel), if_neg (by decide +kernel), if_pos rfl]
theorem lkC {b : Int} {dl ds : Addr} {co : Int} : (fsP b dl ds co).lookup ("coming" : Str) = some (.int co) := by rw [lkS, if_neg (by decide +kernel), if_neg (by decide +kernel), if_neg (by decide +kernel), if_pos rfl]
theorem lkN {b : Int} {dl ds : Addr} {co : Int} {m : Str} (h : (decide (m = "bound") || decide (m = "leans") || decide (m = "stock") || decide (m = "coming")) = false) : (fsP b dl ds co).lookup m = none := by
  simp only [Bool.or_eq_false_iff, decide_eq_false_iff_not] at h
  rw [lkS, if_neg h.1.1.1, if_neg h.1.1.2, if_neg h.1.2, if_neg h.2]
theorem putC {b : Int} {dl ds : Addr} {co co' : Int} : putF ("coming" : Str) (.int co') (fsP b dl ds co) = fsP b dl ds co' := by
  unfold fsP
  rw [putF, if_neg (by decide +kernel), putF, if_neg (by decide +kernel), putF, if_neg (by decide +kernel), putF, if_pos rfl]
section
variable {A : Ad} {H : Hp} {Q : VK} {p dx : Addr} {b co : Int} {dl ds : Addr}
theorem r_fldB (pk : PkOk A) (h : H p = some (.ins A.cPack dx (fsP b dl ds co))) {P : V → Prop} (q : P (.int b)) : ∃ a C dx fs v, V.ref p = .ref a ∧ H a = some (.ins C dx fs) ∧ Cls A.K C ∧ NoAttr A.K C "bound" ∧ fs.lookup ("bound" : Str) = some v ∧ P v := ⟨p, _, _, _, _, rfl, h, pk.cl, pk.nb, lkB, q⟩
theorem r_fldL (pk : PkOk A) (h : H p = some (.ins A.cPack dx (fsP b dl ds co))) {P : V → Prop} (q : P (.ref dl)) : ∃ a C dx fs v, V.ref p = .ref a ∧ H a = some (.ins C dx fs) ∧ Cls A.K C ∧ NoAttr A.K C "leans" ∧ fs.lookup ("leans" : Str) = some v ∧ P v := ⟨p, _, _, _, _, rfl, h, pk.cl, pk.nl, lkL, q⟩
theorem r_fldK (pk : PkOk A) (h : H p = some (.ins A.cPack dx (fsP b dl ds co))) {P : V → Prop} (q : P (.ref ds)) : ∃ a C dx fs v, V.ref p = .ref a ∧ H a = some (.ins C dx fs) ∧ Cls A.K C ∧ NoAttr A.K C "stock" ∧ fs.lookup ("stock" : Str) = some v ∧ P v := ⟨p, _, _, _, _, rfl, h, pk.cl, pk.ns, lkK, q⟩
theorem r_fldC (pk : PkOk A) (h : H p = some (.ins A.cPack dx (fsP b dl ds co))) {P : V → Prop} (q : P (.int co)) : ∃ a C dx fs v, V.ref p = .ref a ∧ H a = some (.ins C dx fs) ∧ Cls A.K C ∧ NoAttr A.K C "coming" ∧ fs.lookup ("coming" : Str) = some v ∧ P v := ⟨p, _, _, _, _, rfl, h, pk.cl, pk.nc, lkC, q⟩
theorem r_methE {m : Str} (h : H p = some (.ins A.cPack dx (fsP b dl ds co))) (hm : (decide (m = "bound") || decide (m = "leans") || decide (m = "stock") || decide (m = "coming")) = false) {P : Prop} (q : P) :
    ∃ a dx fs, V.ref p = .ref a ∧ H a = some (.ins A.cPack dx fs) ∧ fs.lookup m = none ∧ P := ⟨p, _, _, rfl, h, lkN hm, q⟩
end
theorem r_sfld {K : PySem.W.Frag} {ta tv : TE} {f : Str} {nx : St → Hp → Prop} {rt : VK} {bk ct : St → Hp → Prop} {σ : St} {H : Hp} (h : tv σ H fun y H1 => ta σ H1 fun x H2 => ∃ a C dx fs, x = .ref a ∧ H2 a = some (.ins C dx fs) ∧ Cls K C ∧ NoAttr K C f ∧ fs.length < 1000 ∧ nx σ (upd H2 a (.ins C dx (putF f y fs)))) :
    sFld K ta tv f ⟨nx, rt, bk, ct⟩ σ H := h
theorem r_sfldE {K : PySem.W.Frag} {H : Hp} {p C dx : Addr} {fs : List (Str × V)} {f : Str} {y : V} {P : Hp → Prop} (h : H p = some (.ins C dx fs)) (c : Cls K C) (n : NoAttr K C f) (l : fs.length < 1000) (q : ∀ H', Chg p (.ins C dx (putF f y fs)) H H' → P H') :
    ∃ a C dx fs, V.ref p = .ref a ∧ H a = some (.ins C dx fs) ∧ Cls K C ∧ NoAttr K C f ∧ fs.length < 1000 ∧ P (upd H a (.ins C dx (putF f y fs))) := ⟨p, _, _, _, rfl, h, c, n, l, q _ chg_upd⟩
/-! ### what is kept of a version -/
inductive Kept where
  | tx (l : List Nat)
  | ch (at_ : Int) (gone come : List Nat)
def KvAt (H : Hp) (v : V) : Kept → Prop
  | .tx l => v = .str (S l)
  | .ch i g c => ∃ t, v = .ref t ∧ H t = some (.tup [.int i, .str (S g), .str (S c)])
theorem KvAt.sm {H H' : Hp} {v : V} {k : Kept} (h : KvAt H v k) (s : ∀ a xs, H a = some (.tup xs) → H' a = some (.tup xs)) : KvAt H' v k := by
  cases k with
  | tx l => exact h
  | ch i g c =>
    obtain ⟨t, e, h⟩ := h
    exact ⟨t, e, s _ _ h⟩
/-- a pack as it is read (the leans may be walked meanwhile) -/
structure PkR (A : Ad) (H : Hp) (p dl ds : Addr) (b co : Int) (ks : List Int) (o : Int → Option Int) (k : Int → Kept) : Prop where
  ip : ∃ dx, H p = some (.ins A.cPack dx (fsP b dl ds co))
  il : Rd H dl (.dK (nK (fun n => obV (o n)) ks))
  is : ∃ sv, H ds = some (.dK (nK sv ks)) ∧ ∀ n ∈ ks, KvAt H (sv n) (k n)
structure PkAt (A : Ad) (H : Hp) (p dl ds : Addr) (b co : Int) (ks : List Int) (o : Int → Option Int) (k : Int → Kept) : Prop where
  ip : ∃ dx, H p = some (.ins A.cPack dx (fsP b dl ds co))
  il : H dl = some (.dK (nK (fun n => obV (o n)) ks))
  is : ∃ sv, H ds = some (.dK (nK sv ks)) ∧ ∀ n ∈ ks, KvAt H (sv n) (k n)
  ne : dl ≠ ds
theorem PkAt.r {A : Ad} {H : Hp} {p dl ds : Addr} {b co : Int} {ks : List Int} {o : Int → Option Int} {k : Int → Kept} (h : PkAt A H p dl ds b co ks o k) : PkR A H p dl ds b co ks o k := ⟨h.ip, .of h.il, h.is⟩
theorem PkR.sm {A : Ad} {H H' : Hp} {p dl ds : Addr} {b co : Int} {ks : List Int} {o : Int → Option Int} {k : Int → Kept} (h : PkR A H p dl ds b co ks o k) (s : Same H H') : PkR A H' p dl ds b co ks o k := by
  obtain ⟨⟨dx, e⟩, l, sv, e2, kv⟩ := h
  exact ⟨⟨dx, s _ _ e⟩, sm_rd s l, sv, s _ _ e2, fun n hn => (kv n hn).sm fun a xs z => s _ _ z⟩
theorem PkAt.sm {A : Ad} {H H' : Hp} {p dl ds : Addr} {b co : Int} {ks : List Int} {o : Int → Option Int} {k : Int → Kept} (h : PkAt A H p dl ds b co ks o k) (s : Same H H') : PkAt A H' p dl ds b co ks o k := by
  obtain ⟨⟨dx, e⟩, l, ⟨sv, e2, kv⟩, ne⟩ := h
  exact ⟨⟨dx, s _ _ e⟩, s _ _ l, ⟨sv, s _ _ e2, fun n hn => (kv n hn).sm fun a xs z => s _ _ z⟩, ne⟩
theorem PkAt.congr {A : Ad} {H : Hp} {p dl ds : Addr} {b co : Int} {ks : List Int} {o o' : Int → Option Int} {k k' : Int → Kept} (h : PkAt A H p dl ds b co ks o k) (ho : ∀ n ∈ ks, o n = o' n) (hk : ∀ n ∈ ks, k n = k' n) : PkAt A H p dl ds b co ks o' k' := by
  obtain ⟨ip, l, ⟨sv, e2, kv⟩, ne⟩ := h
  refine ⟨ip, ?_, ⟨sv, e2, fun n hn => by rw [← hk n hn]; exact kv n hn⟩, ne⟩
  rw [l, nK_congr fun n hn => by rw [ho n hn]]
/-- all but the pack's own objects stays -/
def Frm (p dl ds : Addr) (H H' : Hp) : Prop := ∀ a u, a ≠ p → a ≠ dl → a ≠ ds → H a = some u → H' a = some u
theorem Frm.of {p dl ds : Addr} {H H' : Hp} (s : Same H H') : Frm p dl ds H H' := fun a u _ _ _ e => s a u e
theorem Frm.trans {p dl ds : Addr} {H H1 H2 : Hp} (f : Frm p dl ds H H1) (g : Frm p dl ds H1 H2) : Frm p dl ds H H2 := fun a u n1 n2 n3 e => g a u n1 n2 n3 (f a u n1 n2 n3 e)
theorem Frm.sm {p dl ds : Addr} {H H1 H2 : Hp} (f : Frm p dl ds H H1) (g : Same H1 H2) : Frm p dl ds H H2 := f.trans (.of g)
theorem Frm.chg {p dl ds a : Addr} {H H1 H2 : Hp} {u : HO} (f : Frm p dl ds H H1) (c : Chg a u H1 H2) (h : a = p ∨ a = dl ∨ a = ds) : Frm p dl ds H H2 := fun x v n1 n2 n3 e => c.2 x v (by rcases h with rfl | rfl | rfl <;> assumption) (f x v n1 n2 n3 e)
theorem Frm.new {p dl ds a : Addr} {H H1 H2 : Hp} {u : HO} (f : Frm p dl ds H H1) (n : H a = none) (c : Chg a u H1 H2) : Frm p dl ds H H2 := fun x v n1 n2 n3 e => c.2 x v (ne_of_none e n) (f x v n1 n2 n3 e)
section
variable {A : Ad} {H H' : Hp} {p dl ds : Addr} {b co : Int} {ks : List Int} {o : Int → Option Int} {k : Int → Kept}
theorem PkAt.tup (h : PkAt A H p dl ds b co ks o k) (f : Frm p dl ds H H') {a : Addr} {xs : List V} (e : H a = some (.tup xs)) : H' a = some (.tup xs) := by
  obtain ⟨⟨dx, e1⟩, e2, ⟨sv, e3, _⟩, _⟩ := h
  exact f a _ (ne_val e e1 (fun z => by cases z)) (ne_val e e2 (fun z => by cases z)) (ne_val e e3 (fun z => by cases z)) e
theorem PkAt.lst (h : PkAt A H p dl ds b co ks o k) (f : Frm p dl ds H H') {a : Addr} {xs : List V} (e : H a = some (.lst xs)) : H' a = some (.lst xs) := by
  obtain ⟨⟨dx, e1⟩, e2, ⟨sv, e3, _⟩, _⟩ := h
  exact f a _ (ne_val e e1 (fun z => by cases z)) (ne_val e e2 (fun z => by cases z)) (ne_val e e3 (fun z => by cases z)) e
theorem PkAt.some3 (h : PkAt A H p dl ds b co ks o k) : H p ≠ none ∧ H dl ≠ none ∧ H ds ≠ none := by
  obtain ⟨⟨dx, e1⟩, e2, ⟨sv, e3, _⟩, _⟩ := h
  rw [e1, e2, e3]
  exact ⟨nofun, nofun, nofun⟩
theorem Frm.free (f : Frm p dl ds H H') (h : PkAt A H' p dl ds b co ks o k) {a : Addr} (e : H' a = none) : H a = none := by
  obtain ⟨n1, n2, n3⟩ := h.some3
  cases q : H a with
  | none => rfl
  | some u =>
    have := f a u (fun z => n1 (z ▸ e)) (fun z => n2 (z ▸ e)) (fun z => n3 (z ▸ e)) q
    rw [e] at this; cases this
end
/-! ### what a pack stands for -/
def lvO (ks : List Int) (o : Int → Option Int) : List (Int × Option Int) := ks.map fun n => (n, o n)
theorem keys_lvO (ks : List Int) (o : Int → Option Int) : keysOf (lvO ks o) = ks := by
  unfold keysOf lvO
  rw [List.map_map]
  exact List.map_id ks
theorem bK_lvO (ks : List Int) (o : Int → Option Int) : bK (lvO ks o) = nK (fun n => obV (o n)) ks := by
  unfold bK lvO nK
  rw [List.map_map]
  rfl
theorem len_lvO (ks : List Int) (o : Int → Option Int) : (lvO ks o).length = ks.length := List.length_map _
theorem look_lvO {ks : List Int} {o : Int → Option Int} {n : Int} : look (lvO ks o) n = if n ∈ ks then some (o n) else none := by
  induction ks with
  | nil => rfl
  | cons a r ih =>
    show look ((a, o a) :: lvO r o) n = _
    rw [look_cons, ih]
    by_cases h : a = n
    · subst h; simp
    · have h2 : n ≠ a := fun z => h z.symm
      simp [h, h2]
theorem look_in {ks : List Int} {o : Int → Option Int} {n : Int} (h : n ∈ ks) : look (lvO ks o) n = some (o n) := by rw [look_lvO, if_pos h]
theorem look_inv {ks : List Int} {o : Int → Option Int} {n : Int} {x : Option Int} (h : look (lvO ks o) n = some x) : n ∈ ks ∧ o n = x := by
  rw [look_lvO] at h
  by_cases z : n ∈ ks
  · rw [if_pos z] at h; exact ⟨z, Option.some.inj h⟩
  · rw [if_neg z] at h; cases h
/-- what is kept of n fits what n and its base are -/
def KOk (tx : Int → List Nat) (o : Int → Option Int) (k : Int → Kept) (n : Int) : Prop :=
  match o n with
  | none => k n = .tx (tx n)
  | some b => ∃ i g c, k n = .ch i g c ∧ Fits (tx b) i g ∧ doneL (tx b) i g c = tx n
structure Gd (ks : List Int) (o : Int → Option Int) (k : Int → Kept) (tx : Int → List Nat) : Prop where
  fo : Forest (lvO ks o)
  ok : ∀ n ∈ ks, KOk tx o k n
  sz : ∀ n ∈ ks, Tx 100000 (tx n)
theorem Gd.nd {ks : List Int} {o : Int → Option Int} {k : Int → Kept} {tx : Int → List Nat} (g : Gd ks o k tx) : ks.Nodup := by
  have := g.fo.nd
  rw [keys_lvO] at this
  exact this
theorem Gd.len {ks : List Int} {o : Int → Option Int} {k : Int → Kept} {tx : Int → List Nat} (g : Gd ks o k tx) : ks.length ≤ 1000 := by
  have := g.fo.len
  rw [len_lvO] at this
  exact this
theorem Gd.base {ks : List Int} {o : Int → Option Int} {k : Int → Kept} {tx : Int → List Nat} (g : Gd ks o k tx) {n b : Int} (hn : n ∈ ks) (e : o n = some b) : b ∈ ks := by
  obtain ⟨rk, w⟩ := g.fo.wf
  have h := (w n b (by rw [look_in hn, e])).1
  rw [look_some, keys_lvO] at h
  exact h
theorem Gd.ch {ks : List Int} {o : Int → Option Int} {k : Int → Kept} {tx : Int → List Nat} (g : Gd ks o k tx) {n : Int} (hn : n ∈ ks) : ∃ c, Ch (lvO ks o) n c ∧ c.length ≤ 1000 := by
  obtain ⟨c, hc⟩ := g.fo.ch (show n ∈ keysOf (lvO ks o) by rw [keys_lvO]; exact hn)
  have := hc.len
  rw [len_lvO] at this
  have := g.len
  exact ⟨c, hc, by omega⟩
theorem ch_keys {ks : List Int} {o : Int → Option Int} {n : Int} {c : List Int} (h : Ch (lvO ks o) n c) : ∀ x ∈ c, x ∈ ks := fun x hx => by
  have := h.keys x hx
  rw [keys_lvO] at this
  exact this
/-- what goes and comes is short -/
theorem fits_tx {z : List Nat} {i : Int} {g c : List Nat} {N M : Nat} (hz : Tx N z) (hf : Fits z i g) (hd : Tx M (doneL z i g c)) : Tx N g ∧ Tx M c := by
  obtain ⟨p, s, rfl, rfl⟩ := fits_split hf
  rw [done_of] at hd
  exact ⟨hz.sub ((List.sublist_append_right p g).trans (List.sublist_append_left _ s)), hd.sub ((List.sublist_append_right p c).trans (List.sublist_append_left _ s))⟩
theorem Gd.kept {ks : List Int} {o : Int → Option Int} {k : Int → Kept} {tx : Int → List Nat} (g : Gd ks o k tx) {n b : Int} (hn : n ∈ ks) (e : o n = some b) :
    ∃ i gg c, k n = .ch i gg c ∧ Fits (tx b) i gg ∧ doneL (tx b) i gg c = tx n ∧ Tx 100000 gg ∧ Tx 100000 c := by
  have h := g.ok n hn
  unfold KOk at h
  rw [e] at h
  obtain ⟨i, gg, c, h1, h2, h3⟩ := h
  obtain ⟨t1, t2⟩ := fits_tx (g.sz b (g.base hn e)) h2 (by rw [h3]; exact g.sz n hn)
  exact ⟨i, gg, c, h1, h2, h3, t1, t2⟩
theorem Gd.whole {ks : List Int} {o : Int → Option Int} {k : Int → Kept} {tx : Int → List Nat} (g : Gd ks o k tx) {n : Int} (hn : n ∈ ks) (e : o n = none) : k n = .tx (tx n) := by
  have h := g.ok n hn
  unfold KOk at h
  rw [e] at h
  exact h
/-! ### slices and walks of lists -/
section
variable {K : PySem.W.Frag} {H : Hp} {Q : VK} {p : Addr} {xs : List V}
theorem r_slL {lo hi : Option Int} (hs : SqL K H p xs) (h : Nw H (.lst (cutV xs lo hi)) Q) : rSl2 K (.ref p) lo hi H Q := .inl ⟨p, xs, rfl, hs, h.go⟩
theorem cutV_init (xs : List V) : cutV xs none (some (-1)) = xs.dropLast := by
  unfold cutV
  rw [HT.sIx_none, List.drop_zero]
  show xs.take ((if (-1 : Int) < 0 then ((-1 : Int) + (xs.length : Int)).toNat else min (-1 : Int).toNat xs.length) - 0) = _
  rw [if_pos (by decide), List.dropLast_eq_take]
  congr 1
  omega
end
theorem r_iRev {K : PySem.W.Frag} {ta : TA} {σ : St} {H : Hp} {R : It → Hp → Prop} (h : ta σ H fun vs H1 => ∃ (a : Addr) (xs : List V), vs = [.ref a] ∧ SqL K H1 a xs ∧ R (Itv K a xs.length) H1) : iRev K ta σ H R := h
theorem r_rng3 {ta : TA} {σ : St} {H : Hp} {R : It → Hp → Prop} (h : ta σ H fun vs H1 => ∃ (i j c : Int) (n : Nat), vs = [.int i, .int j, .int c] ∧ RgC i j c n ∧ R (Itc i c n) H1) : iRng3 ta σ H R := h
theorem r_iZip {K : PySem.W.Frag} {ta : TA} {σ : St} {H : Hp} {R : It → Hp → Prop} (h : ta σ H fun vs H1 => ∃ a b xs ys, vs = [.ref a, .ref b] ∧ SqL K H1 a xs ∧ SqL K H1 b ys ∧ R (Itz K a b) H1) : iZip K ta σ H R := h
/-- what is no version's number -/
def NoVer (H : Hp) (ks : List Int) (x : V) : Prop := (∃ i, x = .int i ∧ i ∉ ks) ∨ (∃ t, x = .bl t) ∨ x = .non ∨ (∃ z, x = .str z) ∨ (∃ a xs, x = .ref a ∧ H a = some (.lst xs)) ∨ (∃ a xs, x = .ref a ∧ H a = some (.tup xs)) ∨ ∃ a kvs, x = .ref a ∧ H a = some (.dK kvs)
/-! ### stores -/
def addK (ks : List Int) (n : Int) : List Int := if n ∈ ks then ks else ks ++ [n]
theorem mem_addK {ks : List Int} {n x : Int} : x ∈ addK ks n ↔ x ∈ ks ∨ x = n := by
  unfold addK
  by_cases h : n ∈ ks
  · rw [if_pos h]
    exact ⟨.inl, fun q => q.elim id fun e => e ▸ h⟩
  · rw [if_neg h, List.mem_append, List.mem_singleton]
theorem addK_len (ks : List Int) (n : Int) : (addK ks n).length ≤ ks.length + 1 := by
  unfold addK
  by_cases h : n ∈ ks
  · rw [if_pos h]; omega
  · rw [if_neg h, List.length_append]; exact Nat.le_refl _
theorem addK_in {ks : List Int} {n : Int} (h : n ∈ ks) : addK ks n = ks := if_pos h
theorem addK_new {ks : List Int} {n : Int} (h : n ∉ ks) : addK ks n = ks ++ [n] := if_neg h
theorem addK_nd {ks : List Int} {n : Int} (h : ks.Nodup) : (addK ks n).Nodup := by
  unfold addK
  by_cases z : n ∈ ks
  · rw [if_pos z]; exact h
  · rw [if_neg z, List.nodup_append]
    exact ⟨h, by simp, fun x hx y hy e => z (by rw [List.mem_singleton] at hy; rw [← hy, ← e]; exact hx)⟩
theorem nK_fu {f : Int → V} {n : Int} {v : V} : ∀ {ks : List Int}, n ∈ ks → putK (nK f ks) (.inl n) v = nK (fu f n v) ks := fun {ks} h => by
  unfold putK
  rw [if_pos (by rw [valV_any, nK_val, if_pos h]; rfl)]
  unfold nK
  rw [List.map_map]
  refine List.map_congr_left fun m hm => ?_
  show (if (Sum.inl m : Key) = Sum.inl n then ((Sum.inl m : Key), v) else (Sum.inl m, f m)) = (Sum.inl m, fu f n v m)
  by_cases e : m = n
  · subst e; rw [if_pos rfl, fu_eq]
  · rw [if_neg fun z => e (Sum.inl.inj z), fu_ne e]
theorem nK_add {f : Int → V} {n : Int} {v : V} {ks : List Int} : putK (nK f ks) (.inl n) v = nK (fu f n v) (addK ks n) := by
  by_cases h : n ∈ ks
  · rw [nK_fu h, addK_in h]
  · rw [addK_new h]
    have e : nK (fu f n v) ks = nK f ks := nK_congr fun m hm => fu_ne fun z => h (z ▸ hm)
    have := nK_put (f := fu f n v) h
    rw [e, fu_eq] at this
    exact this
theorem obV_fu {o : Int → Option Int} {n : Int} {b : Option Int} {ks : List Int} : nK (fu (fun m => obV (o m)) n (obV b)) ks = nK (fun m => obV (fu o n b m)) ks := nK_congr fun m _ => by
  by_cases e : m = n
  · rw [e, fu_eq, fu_eq]
  · rw [fu_ne e, fu_ne e]
/-- what lay keeps -/
def layK (tx : Int → List Nat) (b : Option Int) (t : List Nat) : Kept :=
  match b with
  | none => .tx t
  | some b => .ch (atOf (tx b) t) (goneOf (tx b) t) (comeOf (tx b) t)
/-! ### the rows -/
def RowsAt (H : Hp) (p : Addr) (ks : List Int) (o : Int → Option Int) (k : Int → Kept) : Prop :=
  ∃ ra : Int → Addr, H p = some (.lst (ks.map fun n => .ref (ra n))) ∧ ∀ n ∈ ks, ∃ kv, H (ra n) = some (.tup [.int n, obV (o n), kv]) ∧ KvAt H kv (k n)
theorem RowsAt.sm {H H' : Hp} {p : Addr} {ks : List Int} {o : Int → Option Int} {k : Int → Kept} (h : RowsAt H p ks o k) (hp : ∀ xs, H p = some (.lst xs) → H' p = some (.lst xs)) (s : ∀ a xs, H a = some (.tup xs) → H' a = some (.tup xs)) : RowsAt H' p ks o k := by
  obtain ⟨ra, e, h⟩ := h
  refine ⟨ra, hp _ e, fun n hn => ?_⟩
  obtain ⟨kv, e2, h2⟩ := h n hn
  exact ⟨kv, s _ _ e2, h2.sm s⟩
def obD : Option Int → PyData
  | none => .none
  | some b => .int b
def kpD : Kept → PyData
  | .tx l => .str (S l)
  | .ch i g c => chD i g c
def rowD (n : Int) (o : Option Int) (k : Kept) : PyData := .tuple [.int n, obD o, kpD k]
def rowsD (ks : List Int) (o : Int → Option Int) (k : Int → Kept) : PyData := .list (ks.map fun n => rowD n (o n) (k n))
theorem obD_dp {K : PySem.W.Frag} {H : Hp} (o : Option Int) : Dp K H (obV o) (obD o) := by
  cases o with
  | none => exact .non
  | some b => exact .int b
theorem kpD_dp {K : PySem.W.Frag} {H : Hp} {v : V} {k : Kept} (h : KvAt H v k) : Dp K H v (kpD k) := by
  cases k with
  | tx l => rw [show v = .str (S l) from h]; exact .str _
  | ch i g c =>
    obtain ⟨t, e, h⟩ := h
    rw [e]
    exact chD_dp h
theorem RowsAt.dp {K : PySem.W.Frag} {H : Hp} {p : Addr} {ks : List Int} {o : Int → Option Int} {k : Int → Kept} (h : RowsAt H p ks o k) : Dp K H (.ref p) (rowsD ks o k) := by
  obtain ⟨ra, e, h⟩ := h
  refine .lst (.of e) ?_
  clear e
  induction ks with
  | nil => exact .nil
  | cons n r ih =>
    obtain ⟨kv, e2, h2⟩ := h n List.mem_cons_self
    exact .cons (.tup (.of e2) (.cons (.int n) (.cons (obD_dp _) (.cons (kpD_dp h2) .nil)))) (ih fun m hm => h m (List.mem_cons_of_mem _ hm))
/-- signs that there are, in what is kept -/
def KOkS : Kept → Prop
  | .tx l => Ok l
  | .ch _ g c => Ok g ∧ Ok c
theorem kpD_ok {k : Kept} (h : KOkS k) : (kpD k).canLay0 = true ∧ (kpD k).depth ≤ 2 := by
  cases k with
  | tx l =>
    have := strOk_of h
    exact ⟨by simp [kpD, PyData.canLay0, this], by simp [kpD, PyData.depth]⟩
  | ch i g c =>
    exact ⟨chD_lay h.1 h.2, by simp [kpD, chD, PyData.depth, PyData.depthAll]⟩
theorem rowD_ok {n : Int} {o : Option Int} {k : Kept} (h : KOkS k) : (rowD n o k).canLay0 = true ∧ (rowD n o k).depth ≤ 3 := by
  obtain ⟨h1, h2⟩ := kpD_ok h
  have e : (obD o).canLay0 = true ∧ (obD o).depth ≤ 1 := by cases o <;> simp [obD, PyData.canLay0, PyData.depth]
  constructor
  · simp [rowD, PyData.canLay0, PyData.canLayAll0, e.1, h1]
  · simp [rowD, PyData.depth, PyData.depthAll]
    have := e.2
    omega
theorem rowsD_ok {ks : List Int} {o : Int → Option Int} {k : Int → Kept} (h : ∀ n ∈ ks, KOkS (k n)) : SeqAt.shaped (rowsD ks o k) = true := by
  have h1 : PyData.canLayAll0 (ks.map fun n => rowD n (o n) (k n)) = true ∧ PyData.depthAll (ks.map fun n => rowD n (o n) (k n)) ≤ 3 := by
    induction ks with
    | nil => exact ⟨rfl, by simp [PyData.depthAll]⟩
    | cons n r ih =>
      obtain ⟨i1, i2⟩ := ih fun m hm => h m (List.mem_cons_of_mem _ hm)
      obtain ⟨r1, r2⟩ := rowD_ok (n := n) (o := o n) (h n List.mem_cons_self)
      exact ⟨by simp [PyData.canLayAll0, r1, i1], by simp [PyData.depthAll]; omega⟩
  unfold SeqAt.shaped rowsD
  rw [PyData.canLay0, h1.1, PyData.depth]
  have := h1.2
  simp
  omega
theorem Gd.okS {ks : List Int} {o : Int → Option Int} {k : Int → Kept} {tx : Int → List Nat} (g : Gd ks o k tx) : ∀ n ∈ ks, KOkS (k n) := fun n hn => by
  cases e : o n with
  | none => rw [g.whole hn e]; exact (g.sz n hn).2
  | some b =>
    obtain ⟨i, gg, c, h, _, _, t1, t2⟩ := g.kept hn e
    rw [h]
    exact ⟨t1.2, t2.2⟩
theorem rowsD_congr {ks : List Int} {o o' : Int → Option Int} {k k' : Int → Kept} (ho : ∀ n ∈ ks, o n = o' n) (hk : ∀ n ∈ ks, k n = k' n) : rowsD ks o k = rowsD ks o' k' := by
  unfold rowsD
  congr 1
  exact List.map_congr_left fun n hn => by rw [ho n hn, hk n hn]
def wt : Kept → Nat
  | .tx l => l.length
  | .ch _ g c => g.length + c.length
def wsum (ks : List Int) (k : Int → Kept) : Nat := (ks.map fun n => wt (k n)).sum
theorem rising_eq {ys ks : List Int} (h : ys.Perm ks) (h1 : ys.Pairwise (· ≤ ·)) (h2 : ks.Pairwise (· < ·)) : ys = ks :=
  List.Perm.eq_of_pairwise (le := (· ≤ ·)) (fun _ _ _ _ a b => Int.le_antisymm a b) h1 (h2.imp fun h => Int.le_of_lt h) h
theorem nK_keys (f : Int → V) (ks : List Int) : (nK f ks).map (·.1) = ks.map Sum.inl := by
  unfold nK
  rw [List.map_map]
  rfl
theorem nK_list (f : Int → V) (ks : List Int) : ((nK f ks).map fun kv => kV kv.1) = ks.map V.int := by
  unfold nK
  rw [List.map_map]
  rfl
theorem r_sortK {H : Hp} {Q : VK} {a : Addr} {f : Int → V} {ks : List Int} (h : Rd H a (.dK (nK f ks))) (hl : ks.length < 64) (q : ∀ ys : List Int, ys.Perm ks → ys.Pairwise (· ≤ ·) → Nw H (.lst (ys.map V.int)) Q) : rSortedDI [.ref a] H Q :=
  ⟨a, _, ks, rfl, h, nK_keys f ks, hl, fun ys p h1 h2 h3 => q ys h1 h2 p _ h3 (same_new h3) upd_same⟩
/-! ### a chain turned about -/
def prv : List Int → Int → Option Int
  | a :: b :: r, x => if x = b then some a else prv (b :: r) x
  | _, _ => none
theorem prv_none {x : Int} : ∀ {c : List Int}, x ∉ c.tail → prv c x = none
  | [], _ => rfl
  | [_], _ => rfl
  | a :: b :: r, h => by
    have h : x ∉ b :: r := h
    rw [prv, if_neg fun e : x = b => h (by rw [e]; exact List.mem_cons_self)]
    exact prv_none fun z => h (List.mem_cons_of_mem _ z)
theorem prv_at : ∀ {c : List Int} {i : Nat} {x y : Int}, c.Nodup → c[i]? = some y → c[i + 1]? = some x → prv c x = some y
  | [], i, x, y, _, h, _ => by simp at h
  | [a], i, x, y, _, _, h => by simp at h
  | a :: b :: r, 0, x, y, nd, h1, h2 => by
    cases h1; cases h2
    rw [prv, if_pos rfl]
  | a :: b :: r, i + 1, x, y, nd, h1, h2 => by
    rw [List.nodup_cons] at nd
    have hx : x ∈ r := List.mem_of_getElem? (i := i) (by simpa using h2)
    have nb := nd.2
    rw [List.nodup_cons] at nb
    rw [prv, if_neg fun e : x = b => nb.1 (by rw [← e]; exact hx)]
    exact prv_at nd.2 (by simpa using h1) (by simpa using h2)
theorem nodup_at {c : List Int} {i j : Nat} {x : Int} (nd : c.Nodup) (h1 : c[i]? = some x) (h2 : c[j]? = some x) : i = j := by
  obtain ⟨l1, e1⟩ := List.getElem?_eq_some_iff.mp h1
  obtain ⟨l2, e2⟩ := List.getElem?_eq_some_iff.mp h2
  have h := List.pairwise_iff_getElem.mp nd
  rcases Nat.lt_trichotomy i j with z | z | z
  · exact absurd (e1.trans e2.symm) (h i j l1 l2 z)
  · exact z
  · exact absurd (e2.trans e1.symm) (h j i l2 l1 z)
def turnK : Kept → Kept
  | .ch i g c => .ch i c g
  | k => k
def turnO (c : List Int) (o : Int → Option Int) (x : Int) : Option Int := if x ∈ c then prv c x else o x
def turnP (c : List Int) (k : Int → Kept) (x : Int) : Kept :=
  match prv c x with
  | some a => turnK (k a)
  | none => k x
theorem fits_turn {z w g c : List Nat} {i : Int} (f : Fits z i g) (d : doneL z i g c = w) : Fits w i c ∧ doneL w i c g = z := by
  obtain ⟨p, s, rfl, rfl⟩ := fits_split f
  rw [done_of] at d
  subst d
  exact ⟨fits_of, done_of⟩
theorem lastOf_at {c : List Int} (h : 0 < c.length) : c[c.length - 1]? = some (lastOf c) := by
  unfold lastOf
  rw [List.getLast?_eq_getElem?, List.getElem?_eq_getElem (by omega)]
  rfl
/-- a chain turned about: the pack is as good -/
theorem Gd.turn {ks : List Int} {o : Int → Option Int} {k : Int → Kept} {tx : Int → List Nat} {n : Int} {c : List Int} (g : Gd ks o k tx) (hc : Ch (lvO ks o) n c) : Gd ks (turnO c o) (fu (turnP c k) n (.tx (tx n))) tx := by
  obtain ⟨rk, w⟩ := g.fo.wf
  have nd := hc.nodup
  have hk := ch_keys hc
  have idx : ∀ x ∈ c, ∃ i, c[i]? = some x := fun x hx => by
    obtain ⟨i, hi, e⟩ := List.getElem_of_mem hx
    exact ⟨i, by rw [List.getElem?_eq_getElem hi, e]⟩
  have hd0 : c[0]? = some n := by obtain ⟨r, rfl⟩ := hc.head; rfl
  have prv0 : prv c n = none := by
    obtain ⟨r, rfl⟩ := hc.head
    refine prv_none fun z => ?_
    rw [List.nodup_cons] at nd
    exact nd.1 z
  have step : ∀ {x : Int}, x ∈ c → x ≠ n → ∃ i y, c[i]? = some y ∧ c[i + 1]? = some x ∧ prv c x = some y ∧ o y = some x ∧ y ∈ ks ∧ y ∈ c := fun {x} hx hn => by
    obtain ⟨i, e⟩ := idx x hx
    cases i with
    | zero => rw [hd0] at e; cases e; exact absurd rfl hn
    | succ i =>
      have li : i < c.length := by have := (List.getElem?_eq_some_iff.mp e).1; omega
      have e1 : c[i]? = some c[i] := List.getElem?_eq_getElem li
      have ha := hc.at i _ e1
      rw [e] at ha
      obtain ⟨h1, h2⟩ := look_inv ha
      exact ⟨i, _, e1, e, prv_at nd e1 e, h2, h1, List.getElem_mem li⟩
  refine ⟨⟨by rw [keys_lvO]; exact g.nd, ⟨fun x => if x ∈ c then c.idxOf x else c.length + rk x, ?_⟩, by rw [len_lvO]; exact g.len⟩, fun x hx => ?_, g.sz⟩
  · intro x b e
    obtain ⟨hx, e⟩ := look_inv e
    unfold turnO at e
    by_cases hm : x ∈ c
    · rw [if_pos hm] at e
      have hn : x ≠ n := fun z => by rw [z, prv0] at e; cases e
      obtain ⟨i, y, e1, e2, e3, _, hy, hyc⟩ := step hm hn
      rw [e3] at e
      cases e
      refine ⟨by rw [look_in hy]; rfl, ?_⟩
      show (if b ∈ c then c.idxOf b else c.length + rk b) < (if x ∈ c then c.idxOf x else c.length + rk x)
      rw [if_pos hyc, if_pos hm]
      have id1 : ∀ {j : Nat} {z : Int}, c[j]? = some z → c.idxOf z = j := fun {j z} h => by
        have l2 : c.idxOf z < c.length := List.idxOf_lt_length_iff.mpr (List.mem_of_getElem? h)
        exact nodup_at nd (by rw [List.getElem?_eq_getElem l2, List.getElem_idxOf]) h
      rw [id1 e1, id1 e2]
      omega
    · rw [if_neg hm] at e
      have hb := g.base hx e
      refine ⟨by rw [look_in hb]; rfl, ?_⟩
      have := (w x b (by rw [look_in hx, e])).2
      show (if b ∈ c then c.idxOf b else c.length + rk b) < (if x ∈ c then c.idxOf x else c.length + rk x)
      rw [if_neg hm]
      by_cases hbm : b ∈ c
      · rw [if_pos hbm]
        have := List.idxOf_lt_length_iff.mpr hbm
        omega
      · rw [if_neg hbm]; omega
  · unfold KOk turnO
    by_cases hn : x = n
    · subst hn
      have hm : x ∈ c := List.mem_of_getElem? hd0
      rw [if_pos hm, prv0, fu_eq]
    · rw [fu_ne hn]
      unfold turnP
      by_cases hm : x ∈ c
      · obtain ⟨i, y, e1, e2, e3, e4, hy, hyc⟩ := step hm hn
        rw [if_pos hm, e3]
        obtain ⟨j, gg, cc, h1, h2, h3, _, _⟩ := g.kept hy e4
        obtain ⟨f1, f2⟩ := fits_turn h2 h3
        show ∃ i g c_1, turnK (k y) = .ch i g c_1 ∧ _
        rw [h1]
        exact ⟨j, cc, gg, rfl, f1, f2⟩
      · rw [if_neg hm, prv_none fun z => hm (List.mem_of_mem_tail z)]
        exact g.ok x hx
/-! ### a version more; a version whole -/
theorem Gd.add1 {ks : List Int} {o : Int → Option Int} {k : Int → Kept} {tx : Int → List Nat} {n : Int} {oth : Option Int} {kk : Kept} {t : List Nat} (g : Gd ks o k tx) (hn : n ∉ ks) (hl : ks.length < 1000) (ho : ∀ x, oth = some x → x ∈ ks) (ht : Tx 100000 t)
    (h0 : oth = none → kk = .tx t) (h1 : ∀ b, oth = some b → ∃ i g c, kk = .ch i g c ∧ Fits (tx b) i g ∧ doneL (tx b) i g c = t) :
    Gd (ks ++ [n]) (fu o n oth) (fu k n kk) (fu tx n t) := by
  obtain ⟨rk, w⟩ := g.fo.wf
  have nb : ∀ {x}, x ∈ ks → x ≠ n := fun h e => hn (e ▸ h)
  refine ⟨⟨?_, ⟨fu rk n (match oth with | none => 0 | some x => rk x + 1), ?_⟩, by rw [len_lvO, List.length_append]; show _ + 1 ≤ _; omega⟩, ?_, ?_⟩
  · rw [keys_lvO, List.nodup_append]
    exact ⟨g.nd, by simp, fun x hx y hy e => hn (by rw [List.mem_singleton] at hy; rw [← hy, ← e]; exact hx)⟩
  · intro x b e
    obtain ⟨hx, e⟩ := look_inv e
    rw [List.mem_append, List.mem_singleton] at hx
    by_cases z : x = n
    · subst z
      rw [fu_eq] at e
      subst e
      have hb := ho b rfl
      refine ⟨by rw [look_in (List.mem_append_left _ hb)]; rfl, ?_⟩
      rw [fu_eq, fu_ne (nb hb)]
      exact Nat.lt_succ_self _
    · rw [fu_ne z] at e
      have hx := hx.resolve_right z
      have hb := g.base hx e
      refine ⟨by rw [look_in (List.mem_append_left _ hb)]; rfl, ?_⟩
      rw [fu_ne (nb hb), fu_ne z]
      exact (w x b (by rw [look_in hx, e])).2
  · intro x hx
    rw [List.mem_append, List.mem_singleton] at hx
    unfold KOk
    by_cases z : x = n
    · subst z
      rw [fu_eq, fu_eq, fu_eq]
      cases oth with
      | none => exact h0 rfl
      | some b =>
        have hb := ho b rfl
        show ∃ i g c, kk = .ch i g c ∧ Fits (fu tx x t b) i g ∧ doneL (fu tx x t b) i g c = t
        rw [fu_ne (nb hb)]
        exact h1 b rfl
    · have hx := hx.resolve_right z
      have h := g.ok x hx
      unfold KOk at h
      rw [fu_ne z, fu_ne z, fu_ne z]
      cases e : o x with
      | none => rw [e] at h; exact h
      | some b =>
        rw [e] at h
        show ∃ i g c, k x = .ch i g c ∧ Fits (fu tx n t b) i g ∧ doneL (fu tx n t b) i g c = tx x
        rw [fu_ne (nb (g.base hx e))]
        exact h
  · intro x hx
    rw [List.mem_append, List.mem_singleton] at hx
    by_cases z : x = n
    · subst z; rw [fu_eq]; exact ht
    · rw [fu_ne z]; exact g.sz x (hx.resolve_right z)
theorem Gd.add {ks : List Int} {o : Int → Option Int} {k : Int → Kept} {tx : Int → List Nat} {n : Int} {oth : Option Int} {t : List Nat} (g : Gd ks o k tx) (hn : n ∉ ks) (hl : ks.length < 1000) (ho : ∀ x, oth = some x → x ∈ ks) (ht : Tx 100000 t) :
    Gd (ks ++ [n]) (fu o n oth) (fu k n (layK tx oth t)) (fu tx n t) := g.add1 hn hl ho ht (fun e => by rw [e]; rfl) fun b e => by
  obtain ⟨f1, f2⟩ := change_fits (tx b) t
  exact ⟨_, _, _, by rw [e]; rfl, f1, f2⟩
theorem Gd.whole1 {ks : List Int} {o : Int → Option Int} {k : Int → Kept} {tx : Int → List Nat} {n : Int} (g : Gd ks o k tx) : Gd ks (fu o n none) (fu k n (.tx (tx n))) tx := by
  obtain ⟨rk, w⟩ := g.fo.wf
  refine ⟨⟨by rw [keys_lvO]; exact g.nd, ⟨rk, ?_⟩, by rw [len_lvO]; exact g.len⟩, ?_, g.sz⟩
  · intro x b e
    obtain ⟨hx, e⟩ := look_inv e
    by_cases z : x = n
    · subst z; rw [fu_eq] at e; cases e
    · rw [fu_ne z] at e
      have hb := g.base hx e
      exact ⟨by rw [look_in hb]; rfl, (w x b (by rw [look_in hx, e])).2⟩
  · intro x hx
    unfold KOk
    by_cases z : x = n
    · subst z
      rw [fu_eq, fu_eq]
    · rw [fu_ne z, fu_ne z]
      exact g.ok x hx
/-- what a version stored makes of the pack: ks, o, k, tx with it, beside what it was told -/
def StR (b : Int) (ks : List Int) (o : Int → Option Int) (k : Int → Kept) (tx : Int → List Nat) (n : Int) (o' : Int → Option Int) (k' : Int → Kept) : Prop :=
  (∃ c, Ch (lvO ks o) n c ∧ (c.length : Int) - 1 ≤ b ∧ o' = o ∧ k' = k) ∨
  (∃ c m r cm, Ch (lvO ks o) n c ∧ b < (c.length : Int) - 1 ∧ MS (lvO ks o) n m ∧ RS (lvO ks o) m r ∧ (r : Int) ≤ b ∧ Ch (lvO ks o) m cm ∧ m ∈ ks ∧ o' = turnO cm o ∧ k' = fu (turnP cm k) m (.tx (tx m))) ∨
  ∃ c m r, Ch (lvO ks o) n c ∧ b < (c.length : Int) - 1 ∧ MS (lvO ks o) n m ∧ RS (lvO ks o) m r ∧ b < (r : Int) ∧ o' = fu o n none ∧ k' = fu k n (.tx (tx n))
theorem StR.gd {b : Int} {ks : List Int} {o o' : Int → Option Int} {k k' : Int → Kept} {tx : Int → List Nat} {n : Int} (h : StR b ks o k tx n o' k') (g : Gd ks o k tx) : Gd ks o' k' tx := by
  rcases h with ⟨c, _, _, rfl, rfl⟩ | ⟨c, m, r, cm, _, _, _, _, _, hcm, hm, rfl, rfl⟩ | ⟨c, m, r, _, _, _, _, _, rfl, rfl⟩
  · exact g
  · exact g.turn hcm
  · exact g.whole1
theorem MS.key {ks : List Int} {o : Int → Option Int} {n m : Int} (h : MS (lvO ks o) n m) : m ∈ ks := by
  obtain ⟨⟨_, d, _, hd, _⟩, _⟩ := h
  obtain ⟨r, rfl⟩ := hd.head
  exact ch_keys hd m List.mem_cons_self
/-! ### a law's own dicts: what is kept of each version, the texts -/
def KeptAt (H : Hp) (d : Addr) (ks : List Int) (o : Int → Option Int) (k : Int → Kept) : Prop :=
  ∃ ka : Int → Addr, H d = some (.dK (nK (fun n => .ref (ka n)) ks)) ∧ ∀ n ∈ ks, ∃ kv, H (ka n) = some (.tup [obV (o n), kv]) ∧ KvAt H kv (k n)
def TextsAt (H : Hp) (d : Addr) (ks : List Int) (tx : Int → List Nat) : Prop := H d = some (.dK (nK (fun n => .str (S (tx n))) ks))
theorem KeptAt.mv {H H' : Hp} {d : Addr} {ks : List Int} {o : Int → Option Int} {k : Int → Kept} (h : KeptAt H d ks o k) (hd : ∀ kvs, H d = some (.dK kvs) → H' d = some (.dK kvs)) (s : ∀ a xs, H a = some (.tup xs) → H' a = some (.tup xs)) : KeptAt H' d ks o k := by
  obtain ⟨ka, e, h⟩ := h
  refine ⟨ka, hd _ e, fun n hn => ?_⟩
  obtain ⟨kv, e2, h2⟩ := h n hn
  exact ⟨kv, s _ _ e2, h2.sm s⟩
theorem KeptAt.sm {H H' : Hp} {d : Addr} {ks : List Int} {o : Int → Option Int} {k : Int → Kept} (h : KeptAt H d ks o k) (s : Same H H') : KeptAt H' d ks o k := h.mv (fun _ z => s _ _ z) fun _ _ z => s _ _ z
theorem RowsAt.of_sm {H H' : Hp} {p : Addr} {ks : List Int} {o : Int → Option Int} {k : Int → Kept} (h : RowsAt H p ks o k) (s : Same H H') : RowsAt H' p ks o k := h.sm (fun _ z => s _ _ z) fun _ _ z => s _ _ z
def comeOfK (ks : List Int) : Int := match ks.getLast? with | none => 0 | some m => m + 1
theorem comeOfK_app (ks : List Int) (n : Int) : comeOfK (ks ++ [n]) = n + 1 := by
  unfold comeOfK
  rw [List.getLast?_append]
  rfl
/-- a dict locked and opened again -/
theorem same_lock {d : Addr} {H H1 H2 H3 : Hp} {u w : HO} (e : H d = some u) (c1 : Chg d w H H1) (s : Same H1 H2) (c2 : Chg d u H2 H3) : Same H H3 := ((Off.of (fun _ _ z => z) c1).sm s).back e c2
theorem strict_of {ys ks : List Int} (h : ys.Perm ks) (h1 : ys.Pairwise (· ≤ ·)) (nd : ks.Nodup) : ys.Pairwise (· < ·) := by
  have nd2 : ys.Nodup := h.nodup_iff.mpr nd
  exact List.Pairwise.imp₂ (fun a b (h1 : a ≤ b) (h2 : a ≠ b) => by omega) h1 nd2
/-- a new instance -/
def MkN (C : Addr) (sp : Sp) (E : XK) (vs : List V) (H : Hp) (Q : VK) : Prop := ∀ x dx, H x = none → H dx = none → dx ≠ x → sp (.ref x :: vs) (upd (upd H dx (.own x)) x (.ins C dx [])) (fun v H2 => v = .non ∧ Q (.ref x) H2) E
theorem r_make {C : Addr} {sp : Sp} {E : XK} {t : TA} {σ : St} {H : Hp} {Q : VK} (h : t σ H fun vs H1 => MkN C sp E vs H1 Q) : tMake C sp [] E t σ H Q := by
  unfold tMake
  unfold MkN at h
  simpa using h
theorem r_gCons {t : TG} {u : TGs} {v : V} {r : List V} {σ : St} {H : Hp} {Q : St → Hp → Prop} (h : t v σ H fun σ' H' => u r σ' H' Q) : gCons t u (v :: r) σ H Q := ⟨v, r, rfl, h⟩
theorem r_gNil {σ : St} {H : Hp} {Q : St → Hp → Prop} (h : Q σ H) : gNil [] σ H Q := ⟨rfl, h⟩
theorem atI_back {α : Type} {xs : List α} {e : Nat} {v : α} (h : e < xs.length) (q : xs[xs.length - 1 - e]? = some v) : atI xs (-1 - (e : Int)) = some v := by
  have e1 : ixN xs.length (-1 - (e : Int)) = some (xs.length - 1 - e) := by
    unfold ixN
    rw [if_neg (by omega)]
    first
      | (rw [if_pos (by omega)]; congr 1; omega)
      | (split <;> first | (congr 1; omega) | omega)
  unfold atI
  rw [e1]
  exact q
def KeptR (H : Hp) (d : Addr) (ks : List Int) (o : Int → Option Int) (k : Int → Kept) : Prop :=
  ∃ ka : Int → Addr, Rd H d (.dK (nK (fun n => .ref (ka n)) ks)) ∧ ∀ n ∈ ks, ∃ kv, H (ka n) = some (.tup [obV (o n), kv]) ∧ KvAt H kv (k n)
theorem KeptAt.r {H : Hp} {d : Addr} {ks : List Int} {o : Int → Option Int} {k : Int → Kept} (h : KeptAt H d ks o k) : KeptR H d ks o k := by
  obtain ⟨ka, e, h⟩ := h
  exact ⟨ka, .of e, h⟩
theorem Gd.nil (tx : Int → List Nat) : Gd [] (fun _ => none) (fun _ => .tx []) tx := ⟨⟨by simp [keysOf, lvO], ⟨fun _ => 0, fun n b e => by rw [look_lvO] at e; simp at e⟩, by simp [lvO]⟩, (fun n hn => absurd hn List.not_mem_nil), fun n hn => absurd hn List.not_mem_nil⟩
theorem cut_head {p r : List Nat} {m : Nat} (h : m ≤ p.length) : cutL (p ++ r) (some (m : Int)) (some ((p.length : Nat) : Int)) = p.drop m := by
  rw [cutL_nn, List.drop_append_of_le_length h, List.take_append_of_le_length (by rw [List.length_drop]; omega), List.take_of_length_le (by rw [List.length_drop]; omega)]
theorem wide_fits {a b : List Nat} (m : Nat) (hm : m ≤ atOf a b) : Fits a (m : Int) (cutL a (some (m : Int)) (some ((atOf a b : Nat) : Int)) ++ goneOf a b) ∧
    doneL a (m : Int) (cutL a (some (m : Int)) (some ((atOf a b : Nat) : Int)) ++ goneOf a b) (cutL a (some (m : Int)) (some ((atOf a b : Nat) : Int)) ++ comeOf a b) = b := by
  obtain ⟨p, s, e1, e2, e3, e4⟩ := change_parts a b
  have hc : cutL a (some (m : Int)) (some ((atOf a b : Nat) : Int)) = p.drop m := by
    have := cut_head (p := p) (r := goneOf a b ++ s) (m := m) (by omega)
    rw [← List.append_assoc, ← e1, e3] at this
    exact this
  rw [hc]
  have ea : a = p.take m ++ (p.drop m ++ goneOf a b) ++ s := by
    conv => lhs; rw [e1]
    rw [← List.append_assoc (p.take m), List.take_append_drop]
  have eb : b = p.take m ++ (p.drop m ++ comeOf a b) ++ s := by
    conv => lhs; rw [e2]
    rw [← List.append_assoc (p.take m), List.take_append_drop]
  generalize goneOf a b = g at *
  generalize comeOf a b = c at *
  have lm : m = (p.take m).length := by rw [List.length_take]; omega
  generalize p.take m = q at *
  generalize p.drop m = q2 at *
  subst lm
  rw [ea]
  exact ⟨fits_of, by rw [done_of]; exact eb.symm⟩
theorem fits_all (a b : List Nat) : Fits a 0 a ∧ doneL a 0 a b = b := by
  have h1 : Fits ([] ++ a ++ []) (([] : List Nat).length : Int) a := fits_of
  have h2 : doneL ([] ++ a ++ []) (([] : List Nat).length : Int) a b = [] ++ b ++ [] := done_of
  rw [List.nil_append, List.append_nil] at h1 h2
  rw [List.nil_append, List.append_nil] at h2
  exact ⟨h1, h2⟩
theorem wsum_perm {ys ks : List Int} {k : Int → Kept} (h : ys.Perm ks) : wsum ys k = wsum ks k := by
  unfold wsum
  induction h with
  | nil => rfl
  | cons x _ ih => rw [List.map_cons, List.map_cons, List.sum_cons, List.sum_cons, ih]
  | swap x y l => simp only [List.map_cons, List.sum_cons]; omega
  | trans _ _ h1 h2 => rw [h1, h2]
theorem nK_addF {α : Type} {g : α → V} {f : Int → α} {n : Int} {v : α} {ks : List Int} : putK (nK (fun m => g (f m)) ks) (.inl n) (g v) = nK (fun m => g (fu f n v m)) (addK ks n) := by
  rw [nK_add]
  refine nK_congr fun m _ => ?_
  by_cases e : m = n
  · rw [e, fu_eq, fu_eq]
  · rw [fu_ne e, fu_ne e]
/-- one more in a law's own dict -/
theorem KeptAt.put {H : Hp} {d t : Addr} {ks : List Int} {o : Int → Option Int} {k : Int → Kept} {n : Int} {b : Option Int} {kv : V} {kk : Kept} (h : KeptAt H d ks o k) (et : H t = some (.tup [obV b, kv])) (hk : KvAt H kv kk) :
    ∃ kvs : List (Key × V), H d = some (.dK kvs) ∧ kvs.length = ks.length ∧ ∀ H', Chg d (.dK (putK kvs (.inl n) (.ref t))) H H' → KeptAt H' d (addK ks n) (fu o n b) (fu k n kk) := by
  obtain ⟨ka, e, h⟩ := h
  refine ⟨_, e, nK_len _ _, fun H' c => ?_⟩
  have tup : ∀ a xs, H a = some (.tup xs) → H' a = some (.tup xs) := fun a xs z => c.2 _ _ (ne_val z e fun z => by cases z) z
  refine ⟨fu ka n t, by rw [c.1, nK_addF (g := V.ref)], fun m hm => ?_⟩
  by_cases z : m = n
  · rw [z, fu_eq, fu_eq, fu_eq]
    exact ⟨kv, tup _ _ et, hk.sm tup⟩
  · rw [fu_ne z, fu_ne z, fu_ne z]
    obtain ⟨kv2, e2, h2⟩ := h m ((mem_addK.mp hm).resolve_right z)
    exact ⟨kv2, tup _ _ e2, h2.sm tup⟩
theorem cutV_drop (xs : List V) (j : Nat) : cutV xs (some (j : Int)) none = xs.drop j := by
  unfold cutV
  rw [HT.sIx_nat, HT.sIx_none]
  by_cases h : j ≤ xs.length
  · rw [Nat.min_eq_left h, List.take_of_length_le (by rw [List.length_drop]; omega)]
  · rw [Nat.min_eq_right (show xs.length ≤ j by omega), List.drop_eq_nil_of_le (Nat.le_refl xs.length), List.drop_eq_nil_of_le (show xs.length ≤ j by omega)]
    simp
theorem emod_ne {m s : Int} {j k : Nat} (h : j < k) (hk : (k : Int) < m) : ((j : Int) + s) % m ≠ ((k : Int) + s) % m := fun e => by
  have e2 := Int.emod_emod_of_dvd ((k : Int) + s) (Int.dvd_refl m)
  have h2 : (((k : Int) + s) - ((j : Int) + s)) % m = 0 := Int.emod_eq_emod_iff_emod_sub_eq_zero.mp e.symm
  rw [show ((k : Int) + s) - ((j : Int) + s) = (k : Int) - j by omega, Int.emod_eq_of_lt (by omega) (by omega)] at h2
  omega
theorem getD_at {nm : List Int} {i : Nat} (h : i < nm.length) : nm[i]? = some (nm.getD i 0) := by
  rw [List.getD_eq_getElem?_getD, List.getElem?_eq_getElem h]; rfl
/-- names in an order that turns about -/
theorem turned_names {nm : List Int} {m : Nat} {s : Int} (hl : nm.length = m) (hs : nm.Pairwise (· < ·)) (hm : 0 < m) :
    ((List.range m).map fun (k : Nat) => nm.getD (((k : Int) + s) % (m : Int)).toNat 0).Nodup ∧ ∀ x ∈ (List.range m).map (fun (k : Nat) => nm.getD (((k : Int) + s) % (m : Int)).toNat 0), x ∈ nm := by
  have nd : nm.Nodup := hs.imp fun h => Int.ne_of_lt h
  have ix : ∀ k : Nat, (((k : Int) + s) % (m : Int)).toNat < nm.length := fun k => by
    have h1 := Int.emod_nonneg ((k : Int) + s) (show (m : Int) ≠ 0 by omega)
    have h2 := Int.emod_lt_of_pos ((k : Int) + s) (show (0 : Int) < m by omega)
    omega
  have key : ∀ j k : Nat, j < k → k < m → nm.getD (((j : Int) + s) % (m : Int)).toNat 0 ≠ nm.getD (((k : Int) + s) % (m : Int)).toNat 0 := fun j k hjk hk e => by
    have h1 := getD_at (ix j)
    have h2 := getD_at (ix k)
    rw [e] at h1
    have := nodup_at nd h1 h2
    have a1 := Int.emod_nonneg ((j : Int) + s) (show (m : Int) ≠ 0 by omega)
    have a2 := Int.emod_nonneg ((k : Int) + s) (show (m : Int) ≠ 0 by omega)
    exact emod_ne (s := s) hjk (show ((k : Nat) : Int) < m by omega) (by omega)
  refine ⟨?_, fun x hx => ?_⟩
  · show List.Pairwise (· ≠ ·) _
    rw [List.pairwise_map]
    have h := List.pairwise_lt_range (n := m)
    refine List.Pairwise.imp_of_mem ?_ h
    intro j k _ hk hjk
    exact key j k hjk (List.mem_range.mp hk)
  · obtain ⟨k, _, rfl⟩ := List.mem_map.mp hx
    exact List.mem_of_getElem? (getD_at (ix k))
/-! ### lists of chains -/
def ListsAt (H : Hp) (p : Addr) (ys : List Int) (cf : Int → List Int) : Prop :=
  ∃ ca : Int → Addr, H p = some (.lst (ys.map fun n => .ref (ca n))) ∧ ∀ n ∈ ys, H (ca n) = some (.lst ((cf n).map V.int))
theorem ListsAt.sm {H H' : Hp} {p : Addr} {ys : List Int} {cf : Int → List Int} (h : ListsAt H p ys cf) (s : ∀ a xs, H a = some (.lst xs) → H' a = some (.lst xs)) : ListsAt H' p ys cf := by
  obtain ⟨ca, e, h⟩ := h
  exact ⟨ca, s _ _ e, fun n hn => s _ _ (h n hn)⟩
def chsD (ys : List Int) (cf : Int → List Int) : PyData := .list (ys.map fun n => inD (cf n))
theorem ListsAt.dp {K : PySem.W.Frag} {H : Hp} {p : Addr} {ys : List Int} {cf : Int → List Int} (h : ListsAt H p ys cf) : Dp K H (.ref p) (chsD ys cf) := by
  obtain ⟨ca, e, h⟩ := h
  refine .lst (.of e) ?_
  clear e
  induction ys with
  | nil => exact .nil
  | cons n r ih => exact .cons (inD_dp (.of (h n List.mem_cons_self))) (ih fun m hm => h m (List.mem_cons_of_mem _ hm))
theorem chsD_ok (ys : List Int) (cf : Int → List Int) : SeqAt.shaped (chsD ys cf) = true := by
  have h1 : PyData.canLayAll0 (ys.map fun n => inD (cf n)) = true ∧ PyData.depthAll (ys.map fun n => inD (cf n)) ≤ 2 := by
    induction ys with
    | nil => exact ⟨rfl, by simp [PyData.depthAll]⟩
    | cons n r ih =>
      have e1 : (inD (cf n)).canLay0 = true := by rw [inD, PyData.canLay0]; exact ins_lay _
      have e2 : (inD (cf n)).depth ≤ 2 := by rw [inD, PyData.depth]; have := ins_depth (cf n); omega
      exact ⟨by rw [List.map_cons, PyData.canLayAll0, e1, ih.1]; rfl, by rw [List.map_cons, PyData.depthAll]; have := ih.2; omega⟩
  unfold SeqAt.shaped chsD
  rw [PyData.canLay0, h1.1, PyData.depth]
  have := h1.2
  simp
  omega
theorem r_neO {K : PySem.W.Frag} {H : Hp} {Q : VK} {o : Option Int} (h : Q (.bl false) H) : rNeG K (obV o) (obV o) H Q := r_neV (by cases o <;> rfl) (by rw [decide_eq_true rfl]; exact h)
theorem r_eqO {K : PySem.W.Frag} {H : Hp} {Q : VK} {o : Option Int} (h : Q (.bl true) H) : rEqG K (obV o) (obV o) H Q := r_eqV (by cases o <;> rfl) (by rw [decide_eq_true rfl]; exact h)
/-- another dict locked or changed: the pack stays -/
theorem PkAt.mv {A : Ad} {H H' : Hp} {p dl ds a : Addr} {b co : Int} {ks : List Int} {o : Int → Option Int} {k : Int → Kept} {kvs : List (Key × V)} {u : HO} (h : PkAt A H p dl ds b co ks o k) (e : H a = some (.dK kvs)) (c : Chg a u H H') (nl : a ≠ dl) (ns : a ≠ ds) : PkAt A H' p dl ds b co ks o k := by
  obtain ⟨⟨dx, e1⟩, l, ⟨sv, e2, kv⟩, ne⟩ := h
  have np : p ≠ a := ne_val e1 e fun z => by cases z
  exact ⟨⟨dx, c.2 _ _ np e1⟩, c.2 _ _ nl.symm l, ⟨sv, c.2 _ _ ns.symm e2, fun n hn => (kv n hn).sm fun b xs z => c.2 _ _ (ne_val z e fun z => by cases z) z⟩, ne⟩
theorem r_clear {H : Hp} {Q : VK} {p : Addr} {xs : List V} (hs : H p = some (.lst xs)) (h : ∀ H', Chg p (.lst []) H H' → Q .non H') : rClear (.ref p) [] H Q := ⟨p, xs, rfl, rfl, hs, h _ chg_upd⟩
theorem Ch.mem_eq {ys ks : List Int} {o : Int → Option Int} (h : ∀ n, n ∈ ys ↔ n ∈ ks) {n : Int} {c : List Int} (g : Ch (lvO ys o) n c) : Ch (lvO ks o) n c := by
  induction g with
  | whole e => exact .whole (by obtain ⟨h1, h2⟩ := look_inv e; rw [look_in ((h _).mp h1), h2])
  | lean e _ ih => exact .lean (by obtain ⟨h1, h2⟩ := look_inv e; rw [look_in ((h _).mp h1), h2]) ih
theorem Gd.perm {ys ks : List Int} {o : Int → Option Int} {k : Int → Kept} {tx : Int → List Nat} (g : Gd ks o k tx) (h : ys.Perm ks) : Gd ys o k tx := by
  obtain ⟨rk, w⟩ := g.fo.wf
  refine ⟨⟨by rw [keys_lvO]; exact h.nodup_iff.mpr g.nd, ⟨rk, fun n b e => ?_⟩, by rw [len_lvO, h.length_eq]; exact g.len⟩, fun n hn => g.ok n (h.mem_iff.mp hn), fun n hn => g.sz n (h.mem_iff.mp hn)⟩
  obtain ⟨h1, h2⟩ := look_inv e
  have h1 := h.mem_iff.mp h1
  exact ⟨by rw [look_in (h.mem_iff.mpr (g.base h1 h2))]; rfl, (w n b (by rw [look_in h1, h2])).2⟩
theorem lt_come {ys : List Int} (h : ys.Pairwise (· < ·)) : ∀ n ∈ ys, n < comeOfK ys := fun n hn => by
  unfold comeOfK
  cases e : ys.getLast? with
  | none => rw [List.getLast?_eq_none_iff] at e; subst e; cases hn
  | some m =>
    obtain ⟨r, rfl⟩ : ∃ r, ys = r ++ [m] := by
      have hne : ys ≠ [] := fun z => by rw [z] at hn; cases hn
      refine ⟨ys.dropLast, ?_⟩
      have := List.dropLast_concat_getLast hne
      rw [List.getLast?_eq_some_getLast hne] at e
      rw [← Option.some.inj e]
      exact this.symm
    rw [List.pairwise_append] at h
    show n < m + 1
    rcases List.mem_append.mp hn with q | q
    · have := h.2.2 n q m (by simp); omega
    · rw [List.mem_singleton] at q; omega
theorem come_nn {ys : List Int} (h : ∀ n ∈ ys, 0 ≤ n) : 0 ≤ comeOfK ys := by
  unfold comeOfK
  cases e : ys.getLast? with
  | none => exact Int.le_refl _
  | some m => have := h m (List.mem_of_getLast? e); show 0 ≤ m + 1; omega
theorem come_last {ys : List Int} (h : ys ≠ []) : ∃ r m, ys = r ++ [m] ∧ comeOfK ys = m + 1 := ⟨ys.dropLast, ys.getLast h, (List.dropLast_concat_getLast h).symm, by unfold comeOfK; rw [List.getLast?_eq_some_getLast h]⟩
/-- beside none: the version stored is whole -/
theorem StR.none {b : Int} {ks : List Int} {o o' : Int → Option Int} {k k' : Int → Kept} {tx : Int → List Nat} {n : Int} (h : StR b ks o k tx n o' k') (hn : n ∈ ks) (ho : o n = Option.none) (hb : 0 ≤ b) : o' = o ∧ k' = k := by
  have hw : Ch (lvO ks o) n [n] := .whole (by rw [look_in hn, ho])
  rcases h with ⟨c, hc, _, h1, h2⟩ | ⟨c, m, r, cm, hc, h1, _⟩ | ⟨c, m, r, hc, h1, _⟩
  · exact ⟨h1, h2⟩
  · rw [hc.inj hw] at h1
    have : (([n] : List Int).length : Int) = 1 := rfl
    omega
  · rw [hc.inj hw] at h1
    have : (([n] : List Int).length : Int) = 1 := rfl
    omega
theorem PkAt.mvL {A : Ad} {H H' : Hp} {p dl ds a : Addr} {b co : Int} {ks : List Int} {o : Int → Option Int} {k : Int → Kept} {xs : List V} {u : HO} (h : PkAt A H p dl ds b co ks o k) (e : H a = some (.lst xs)) (c : Chg a u H H') : PkAt A H' p dl ds b co ks o k := by
  obtain ⟨⟨dx, e1⟩, l, ⟨sv, e2, kv⟩, ne⟩ := h
  exact ⟨⟨dx, c.2 _ _ (ne_val e1 e fun z => by cases z) e1⟩, c.2 _ _ (ne_val l e fun z => by cases z) l, ⟨sv, c.2 _ _ (ne_val e2 e fun z => by cases z) e2, fun n hn => (kv n hn).sm fun b xs z => c.2 _ _ (ne_val z e fun z => by cases z) z⟩, ne⟩
/-! ### numbers in lists -/
theorem inV_nums (x : Int) (d : List Int) : inV (.int x) (d.map V.int) = decide (x ∈ d) := by
  unfold inV
  rw [List.any_map]
  induction d with
  | nil => rfl
  | cons a d ih =>
    rw [List.any_cons, ih]
    show ((a == x) || _) = _
    by_cases h : a = x
    · subst h; simp
    · have h2 : x ≠ a := fun z => h z.symm
      simp [h, h2]
theorem flat_nums (d : List Int) : (d.map V.int).all flatV = true := by
  rw [List.all_eq_true]
  intro x hx
  obtain ⟨i, _, rfl⟩ := List.mem_map.mp hx
  rfl
theorem r_inN {K : PySem.W.Frag} {H : Hp} {Q : VK} {p : Addr} {x : Int} {d : List Int} (e : SqL K H p (d.map V.int)) (h : Q (.bl (decide (x ∈ d))) H) : rIn K false (.int x) (.ref p) H Q :=
  ⟨p, _, rfl, .inl e, rfl, flat_nums d, by rw [if_neg Bool.false_ne_true, inV_nums]; exact h⟩
theorem r_idxN {K : PySem.W.Frag} {H : Hp} {Q : VK} {p : Addr} {x : Int} {d : List Int} (e : SqL K H p (d.map V.int)) (hx : x ∈ d) (h : Q (.int (d.idxOf x : Nat)) H) : rIndex K (.ref p) [.int x] H Q := by
  have il : d.idxOf x < d.length := List.idxOf_lt_length_iff.mpr hx
  refine ⟨p, _, _, d.idxOf x, .int x, rfl, rfl, e, rfl, flat_nums d, by rw [List.getElem?_map, List.getElem?_eq_getElem il, List.getElem_idxOf]; rfl, by show (x == x) = true; simp, fun m z' hm hz => ?_, h⟩
  rw [List.getElem?_map, List.getElem?_eq_getElem (by omega)] at hz
  obtain rfl := Option.some.inj hz
  show (d[m] == x) = false
  have := List.not_of_lt_findIdx (p := (· == x)) (xs := d) hm
  simpa using this
/-- a version leaned on another whose chain has it not -/
theorem Gd.lean {ks : List Int} {o : Int → Option Int} {k : Int → Kept} {tx : Int → List Nat} {n m : Int} {c : List Int} (g : Gd ks o k tx) (hn : n ∈ ks) (hm : m ∈ ks) (hc : Ch (lvO ks o) m c) (nc : n ∉ c) :
    Gd ks (fu o n (some m)) (fu k n (layK tx (some m) (tx n))) tx := by
  classical
  obtain ⟨rk, w⟩ := g.fo.wf
  refine ⟨⟨by rw [keys_lvO]; exact g.nd, ⟨fun x => if ∃ d, Ch (lvO ks o) x d ∧ n ∈ d then rk m + 1 + rk x else rk x, ?_⟩, by rw [len_lvO]; exact g.len⟩, ?_, g.sz⟩
  · intro x b e
    obtain ⟨hx, e⟩ := look_inv e
    show (look (lvO ks (fu o n (some m))) b).isSome = true ∧ (if ∃ d, Ch (lvO ks o) b d ∧ n ∈ d then rk m + 1 + rk b else rk b) < (if ∃ d, Ch (lvO ks o) x d ∧ n ∈ d then rk m + 1 + rk x else rk x)
    by_cases z : x = n
    · subst z
      rw [fu_eq] at e
      cases e
      refine ⟨by rw [look_in hm]; rfl, ?_⟩
      obtain ⟨d, hd, _⟩ := g.ch hn
      rw [if_neg (fun ⟨d, h1, h2⟩ => nc (by rw [hc.inj h1]; exact h2)), if_pos ⟨d, hd, by obtain ⟨r, rfl⟩ := hd.head; exact List.mem_cons_self⟩]
      omega
    · rw [fu_ne z] at e
      have hb := g.base hx e
      have hlt := (w x b (by rw [look_in hx, e])).2
      refine ⟨by rw [look_in hb]; rfl, ?_⟩
      have lx : look (lvO ks o) x = some (some b) := by rw [look_in hx, e]
      by_cases y : ∃ d, Ch (lvO ks o) b d ∧ n ∈ d
      · rw [if_pos y]
        obtain ⟨d, h1, h2⟩ := y
        rw [if_pos ⟨_, .lean lx h1, List.mem_cons_of_mem _ h2⟩]
        omega
      · rw [if_neg y]
        by_cases y2 : ∃ d, Ch (lvO ks o) x d ∧ n ∈ d
        · rw [if_pos y2]; omega
        · rw [if_neg y2]; exact hlt
  · intro x hx
    unfold KOk
    by_cases z : x = n
    · subst z
      rw [fu_eq, fu_eq]
      obtain ⟨f1, f2⟩ := change_fits (tx m) (tx x)
      exact ⟨_, _, _, rfl, f1, f2⟩
    · rw [fu_ne z, fu_ne z]
      exact g.ok x hx
/-- a version that none leans on goes -/
theorem Gd.drop {ks : List Int} {o : Int → Option Int} {k : Int → Kept} {tx : Int → List Nat} {n : Int} (g : Gd ks o k tx) (h : ∀ x ∈ ks, o x ≠ some n) : Gd (ks.filter fun x => decide (x ≠ n)) o k tx := by
  obtain ⟨rk, w⟩ := g.fo.wf
  have sub : ∀ {x}, x ∈ ks.filter (fun x => decide (x ≠ n)) → x ∈ ks := fun hx => (List.mem_filter.mp hx).1
  refine ⟨⟨by rw [keys_lvO]; exact g.nd.sublist List.filter_sublist, ⟨rk, fun x b e => ?_⟩, by rw [len_lvO]; exact Nat.le_trans (List.length_filter_le _ _) g.len⟩, fun x hx => g.ok x (sub hx), fun x hx => g.sz x (sub hx)⟩
  obtain ⟨hx, e⟩ := look_inv e
  have hx := sub hx
  have hb := g.base hx e
  refine ⟨?_, (w x b (by rw [look_in hx, e])).2⟩
  have hbn : b ≠ n := fun z => h x hx (by rw [e, z])
  rw [look_in (List.mem_filter.mpr ⟨hb, by simp [hbn]⟩)]
  rfl
theorem nK_drop (f : Int → V) (ks : List Int) (n : Int) : dropK (nK f ks) (.inl n) = nK f (ks.filter fun x => decide (x ≠ n)) := by
  unfold dropK nK
  rw [List.filter_map]
  congr 1
  refine List.filter_congr fun x _ => ?_
  show decide ((Sum.inl x : Key) ≠ Sum.inl n) = decide (x ≠ n)
  by_cases e : x = n
  · subst e; simp
  · have e2 : ¬ (Sum.inl x : Key) = Sum.inl n := fun z => e (Sum.inl.inj z)
    simp [e, e2]
end Pk
/-! PkR: a text turned about: s[::-1]. -/
namespace L2
open PySem PySem.Spec PyProof.Rows
section
variable {X : Cx}
def tRev (te : TE) : TE := fun σ H Q => te σ H fun x H1 => ∃ l : List Nat, x = .str ⟨l.toArray⟩ ∧ l.length ≤ sizeLine ∧ Q (.str ⟨l.reverse.toArray⟩) H1
theorem rev_idx (z : Str) : (Builtin.Str.strSliceIndices none none (-1) z.length).filterMap (z.cps[·]?) = z.cps.toList.reverse := by
  show ((sliceRange ((z.cps.size : Int) - 1) (-1) (-1)).filterMap (z.cps[·]?)) = _
  rw [PySem.W.krv_sliceRange, PySem.W.krv_range, List.filterMap_reverse, PySem.W.krv_all]
theorem pe_rev {e : Expr} {te : TE} {k : Nat} {p1 p2 p3 pos : Pos} (he : PE X e te) : PE X (.Subscript e (.Slice none none (some (.UnaryOp .USub (.Constant (.int 1) k p1) p2)) p3) pos) (tRev te) := by
  refine ⟨fun pins s σ H Q I h => ?_⟩
  refine Subscript_ (thn (he.run pins s σ H _ I h) fun v s1 ⟨x, H1, I1, r1, q1⟩ => ?_)
  obtain ⟨ll, ex, hl, q⟩ := q1
  obtain ⟨z, ez⟩ : ∃ z : Str, z = ⟨ll.toArray⟩ := ⟨_, rfl⟩
  have hz : z.length ≤ sizeLine := by rw [ez]; show ll.toArray.size ≤ _; rw [List.size_toArray]; exact hl
  have ell : ll = z.cps.toList := by rw [ez]
  rw [← ez] at ex
  rw [ell] at q
  subst ex
  obtain ⟨t, rfl⟩ := r1
  have hst : PO X (some (.UnaryOp .USub (.Constant (.int 1) k p1) p2)) (tPart (tUn (rU fun i => .int (-i)) (tC (.int 1)))) := po_some (pe_un un_neg pe_int)
  refine wpAny_Slice (thn (po_none.run pins s1 σ H1 (fun o H2 => o = none ∧ H2 = H1) I1 ⟨rfl, rfl⟩) fun vl s2 ⟨l, H2, I2, pl, el, e2⟩ => ?_)
  subst el e2
  refine thn (po_none.run pins s2 σ H2 (fun o H3 => o = none ∧ H3 = H2) I2 ⟨rfl, rfl⟩) fun vu s3 ⟨u, H3, I3, pu, eu, e3⟩ => ?_
  subst eu e3
  refine thn (hst.run pins s3 σ H3 (fun o H4 => o = some (-1) ∧ H4 = H3) I3 ⟨1, rfl, -1, rfl, rfl, rfl⟩) fun vs s4 ⟨o, H4, I4, ps, eo, e4⟩ => ?_
  subst eo e4
  obtain ⟨ol, rfl, el⟩ := IsPart.raw pl
  obtain ⟨ou, rfl, eu⟩ := IsPart.raw pu
  obtain ⟨os, rfl, es⟩ := IsPart.raw ps
  have I5 : Inv X pins σ H4 { s4 with heap := s4.heap.push { cls := .type "slice", data := .fields #[partValue ol, partValue ou, partValue os] } } := I4.kept (t' := s4.toks) fun b ob q => Heap.get?_push_of_some _ q
  refine tail_any (ops := [.ref s4.heap.objs.size, .str z t]) (typeIs_str _ _ _) (PySem.F.slot_str_getitem.lookup) ?_ (by with_unfolding_all rfl)
  refine wpAny_getItem_str_slice (l := ol) (u := ou) (st := os) ⟨_, Heap.get?_push_size _ rfl, rfl, rfl⟩ (by rw [es]; rfl) ?_
  have hp : slicePicked z ol ou os = Builtin.Str.strSliceIndices none none (-1) z.length := by
    unfold slicePicked
    rw [el, eu, es]
    rfl
  unfold sliceMade
  rw [if_neg (fun c => by rw [es] at c; simp at c), hp, rev_idx]
  refine ⟨?_, .str _, H4, I5.tok _, ⟨_, rfl⟩, q⟩
  show (z.cps.toList.reverse.toArray).size ≤ sizeLine
  rw [List.size_toArray, List.length_reverse]
  exact hz
end
end L2
namespace Pk
open PySem PySem.Spec L2
theorem r_revS {te : TE} {σ : St} {H : Hp} {Q : VK} (h : te σ H fun x H1 => ∃ l : List Nat, x = .str (S l) ∧ l.length ≤ sizeLine ∧ Q (.str (S l.reverse)) H1) : tRev te σ H Q := h
theorem r_revE {l : List Nat} {P : List Nat → Prop} (hl : l.length ≤ sizeLine) (h : P l) : ∃ l2 : List Nat, V.str (S l) = .str (S l2) ∧ l2.length ≤ sizeLine ∧ P l2 := ⟨l, rfl, hl, h⟩
def nums (n : Nat) : List Int := (List.range n).map Int.ofNat
theorem nums_len (n : Nat) : (nums n).length = n := by unfold nums; simp
theorem nums_mem {n : Nat} {x : Int} : x ∈ nums n ↔ 0 ≤ x ∧ x < n := by
  unfold nums
  rw [List.mem_map]
  constructor
  · rintro ⟨j, hj, rfl⟩
    have := List.mem_range.mp hj
    exact ⟨Int.natCast_nonneg j, by show (j : Int) < n; omega⟩
  · rintro ⟨h1, h2⟩
    exact ⟨x.toNat, List.mem_range.mpr (by omega), Int.toNat_of_nonneg h1⟩
theorem nums_at {n i : Nat} (h : i < n) : (nums n)[i]? = some (i : Int) := by
  unfold nums
  rw [List.getElem?_map, List.getElem?_range h]
  rfl
theorem nums_succ (n : Nat) : nums (n + 1) = nums n ++ [(n : Int)] := by
  unfold nums
  rw [List.range_succ, List.map_append]
  rfl
theorem nums_rise (n : Nat) : (nums n).Pairwise (· < ·) := by
  unfold nums
  rw [List.pairwise_map]
  exact List.Pairwise.imp (fun h => Int.ofNat_lt.mpr h) List.pairwise_lt_range
/-- the other pack stays -/
theorem PkAt.frm {A : Ad} {H H' : Hp} {p dl ds q el es : Addr} {b co b' co' : Int} {ks ks' : List Int} {o o' : Int → Option Int} {k k' : Int → Kept} (h : PkAt A H q el es b co ks o k) (h' : PkAt A H p dl ds b' co' ks' o' k') (f : Frm p dl ds H H') (n1 : q ≠ p) (n2 : el ≠ dl) (n3 : el ≠ ds) (n4 : es ≠ dl) (n5 : es ≠ ds) :
    PkAt A H' q el es b co ks o k := by
  obtain ⟨⟨dx, e1⟩, l, ⟨sv, e2, kv⟩, ne⟩ := h
  obtain ⟨⟨dx', e1'⟩, l', ⟨sv', e2', _⟩, _⟩ := id h'
  exact ⟨⟨dx, f _ _ n1 (ne_val e1 l' fun z => by cases z) (ne_val e1 e2' fun z => by cases z) e1⟩, f _ _ (ne_val l e1' fun z => by cases z) n2 n3 l,
    ⟨sv, f _ _ (ne_val e2 e1' fun z => by cases z) n4 n5 e2, fun n hn => (kv n hn).sm fun a xs z => h'.tup f z⟩, ne⟩
theorem sql_mv {K : PySem.W.Frag} {H H' : Hp} {a : Addr} {xs : List V} (h : SqL K H a xs) (s : ∀ u, H a = some u → H' a = some u) : SqL K H' a xs := by
  rcases h with (h | ⟨o, h⟩) | h
  · exact .inl (.inl (s _ h))
  · exact .inl (.inr ⟨o, s _ h⟩)
  · exact .inr h
theorem sql_frm {A : Ad} {K : PySem.W.Frag} {H H' : Hp} {p dl ds a : Addr} {b co : Int} {ks : List Int} {o : Int → Option Int} {k : Int → Kept} {xs : List V} (h : SqL K H a xs) (hP : PkAt A H p dl ds b co ks o k) (f : Frm p dl ds H H') : SqL K H' a xs := by
  obtain ⟨⟨dx, e1⟩, e2, ⟨sv, e3, _⟩, _⟩ := hP
  have g : ∀ u, (∀ C x y, u ≠ .ins C x y) → (∀ kvs, u ≠ .dK kvs) → H a = some u → H' a = some u := fun u n1 n2 e => f a u (fun z => by rw [z, e1] at e; exact n1 _ _ _ (Option.some.inj e).symm) (fun z => by rw [z, e2] at e; exact n2 _ (Option.some.inj e).symm) (fun z => by rw [z, e3] at e; exact n2 _ (Option.some.inj e).symm) e
  rcases h with (h | ⟨o, h⟩) | h
  · exact .inl (.inl (g _ (fun _ _ _ z => by cases z) (fun _ z => by cases z) h))
  · exact .inl (.inr ⟨o, g _ (fun _ _ _ z => by cases z) (fun _ z => by cases z) h⟩)
  · exact .inr h
theorem sql_or {K : PySem.W.Frag} {H : Hp} {a p : Addr} {xs : List V} (h : SqL K H a xs) (e : H p = none) : a ≠ p ∨ ∀ H', SqL K H' a xs := by
  rcases h with (h | ⟨o, h⟩) | h
  · exact .inl (ne_of_none h e)
  · exact .inl (ne_of_none h e)
  · exact .inr fun _ => .inr h
theorem sql_chg {K : PySem.W.Frag} {H H' : Hp} {a p : Addr} {xs : List V} {u : HO} (h : SqL K H a xs) (hn : a ≠ p ∨ ∀ H', SqL K H' a xs) (c : Chg p u H H') : SqL K H' a xs := hn.elim (fun n => sql_mv h fun v e => c.2 a v n e) fun k => k _
/-- a new pack -/
theorem mk_pack {A : Ad} {b : Int} {H : Hp} {Q : VK} {sp : Sp} {E : XK} (hsp : ∀ p dx, (upd (upd H dx (.own p)) p (.ins A.cPack dx [])) p = some (.ins A.cPack dx []) → (∀ (dl ds : Addr) (H' : Hp), (∀ a u, a ≠ p → (upd (upd H dx (.own p)) p (.ins A.cPack dx [])) a = some u → H' a = some u) → (upd (upd H dx (.own p)) p (.ins A.cPack dx [])) dl = none → (upd (upd H dx (.own p)) p (.ins A.cPack dx [])) ds = none →
      PkAt A H' p dl ds b 0 [] (fun _ => none) (fun _ => .tx []) → (V.non = .non ∧ Q (.ref p) H')) → sp [.ref p, .int b] (upd (upd H dx (.own p)) p (.ins A.cPack dx [])) (fun v H2 => v = .non ∧ Q (.ref p) H2) E)
    (q : ∀ (p dl ds : Addr) (H' : Hp), Same H H' → H p = none → H dl = none → H ds = none → PkAt A H' p dl ds b 0 [] (fun _ => none) (fun _ => .tx []) → Q (.ref p) H') : MkN A.cPack sp E [.int b] H Q := by
  intro p dx np nx nxp
  refine hsp p dx upd_same fun dl ds H1 s1 nl ns hP => ⟨rfl, ?_⟩
  have s01 : Same H H1 := fun a u e => s1 a u (ne_of_none e np) (by rw [upd_ne (ne_of_none e np), upd_ne (ne_of_none e nx)]; exact e)
  have free : ∀ {a : Addr}, a ≠ p → a ≠ dx → (upd (upd H dx (.own p)) p (.ins A.cPack dx [])) a = none → H a = none := fun {a} n1 n2 e => by
    rw [upd_ne n1, upd_ne n2] at e; exact e
  have nlp : dl ≠ p := fun z => by rw [z, upd_same] at nl; cases nl
  have nsp : ds ≠ p := fun z => by rw [z, upd_same] at ns; cases ns
  have nlx : dl ≠ dx := fun z => by rw [z, upd_ne nxp, upd_same] at nl; cases nl
  have nsx : ds ≠ dx := fun z => by rw [z, upd_ne nxp, upd_same] at ns; cases ns
  exact q p dl ds H1 s01 np (free nlp nlx nl) (free nsp nsx ns) hP
theorem fu_rev {tx : Int → List Nat} {n : Int} {z : List Nat} : (fu (fun m => (tx m).reverse) n z.reverse) = fun m => (fu tx n z m).reverse := funext fun m => by
  by_cases e : m = n
  · rw [e, fu_eq, fu_eq]
  · rw [fu_ne e, fu_ne e]
/-! ### a path -/
def pth (x : Int) : Option Int := if x = 0 then none else some (x - 1)
def dn : Nat → List Int
  | 0 => [0]
  | n + 1 => ((n + 1 : Nat) : Int) :: dn n
theorem dn_len : ∀ n, (dn n).length = n + 1
  | 0 => rfl
  | n + 1 => by rw [dn, List.length_cons, dn_len n]
theorem dn_head (n : Nat) : ∃ r, dn n = (n : Int) :: r := by
  cases n with
  | zero => exact ⟨[], rfl⟩
  | succ n => exact ⟨dn n, rfl⟩
theorem dn_mem {x : Int} : ∀ {n : Nat}, x ∈ dn n ↔ 0 ≤ x ∧ x ≤ n
  | 0 => by rw [dn, List.mem_singleton]; constructor <;> intro h <;> omega
  | n + 1 => by rw [dn, List.mem_cons, dn_mem]; constructor <;> intro h <;> omega
theorem dn_last (n : Nat) : lastOf (dn n) = 0 := by
  induction n with
  | zero => rfl
  | succ n ih =>
    obtain ⟨r, e⟩ := dn_head n
    rw [dn]
    rw [e] at ih ⊢
    rw [lastOf_cons, ih]
theorem dn_idx : ∀ {n x : Nat}, x ≤ n → (dn n).idxOf (x : Int) = n - x
  | 0, x, h => by
    obtain rfl : x = 0 := by omega
    rfl
  | n + 1, x, h => by
    rw [dn, List.idxOf_cons]
    by_cases e : x = n + 1
    · subst e; simp
    · have e2 : (((n + 1 : Nat) : Int) == (x : Int)) = false := by
        rw [beq_eq_false_iff_ne]
        intro z
        omega
      rw [e2, dn_idx (by omega)]
      show n - x + 1 = n + 1 - x
      omega
theorem dn_btw (x : Nat) : ∀ y : Nat, btw (dn y) (dn x) = (y - x) + (x - y)
  | 0 => by
    show (if (0 : Int) ∈ dn x then (dn x).idxOf (0 : Int) else _) = _
    rw [if_pos (dn_mem.mpr ⟨by omega, by omega⟩)]
    have := dn_idx (n := x) (x := 0) (Nat.zero_le _)
    rw [show ((0 : Int)) = ((0 : Nat) : Int) from rfl, this]
    omega
  | y + 1 => by
    rw [dn]
    show (if ((y + 1 : Nat) : Int) ∈ dn x then (dn x).idxOf ((y + 1 : Nat) : Int) else btw (dn y) (dn x) + 1) = _
    by_cases h : y + 1 ≤ x
    · rw [if_pos (dn_mem.mpr ⟨by omega, by omega⟩), dn_idx h]
      omega
    · rw [if_neg (fun z => by have := (dn_mem.mp z).2; omega), dn_btw x y]
      omega
theorem dn_ch {M : Nat} : ∀ {n : Nat}, n < M → Ch (lvO (nums M) pth) n (dn n)
  | 0, h => .whole (by rw [look_in (nums_mem.mpr ⟨by omega, by omega⟩)]; rfl)
  | n + 1, h => by
    refine .lean (b := n) ?_ (dn_ch (by omega))
    rw [look_in (nums_mem.mpr ⟨by omega, by omega⟩)]
    unfold pth
    rw [if_neg (by omega)]
    congr 2
    omega
theorem dn_range (n : Nat) : dn n = (List.range (n + 1)).map fun (k : Nat) => (n : Int) - k := by
  induction n with
  | zero => rfl
  | succ n ih =>
    rw [dn, List.range_succ_eq_map, List.map_cons, List.map_map, ih]
    refine List.cons_eq_cons.mpr ⟨by show ((n + 1 : Nat) : Int) = ((n + 1 : Nat) : Int) - ((0 : Nat) : Int); omega, List.map_congr_left fun k _ => ?_⟩
    show (n : Int) - k = ((n + 1 : Nat) : Int) - ((k + 1 : Nat) : Int)
    omega
theorem path_far {L x : Nat} (hx : x ≤ L) {y : Int} {k : Nat} : Far (lvO (nums (L + 1)) pth) (dn x) y k ↔ ∃ j : Nat, y = j ∧ j ≤ L ∧ k = (j - x) + (x - j) := by
  constructor
  · rintro ⟨c, hc, _, e⟩
    obtain ⟨r, er⟩ := hc.head
    have hy := ch_keys hc y (by rw [er]; exact List.mem_cons_self)
    obtain ⟨h0, h1⟩ := nums_mem.mp hy
    obtain ⟨j, rfl⟩ : ∃ j : Nat, y = j := ⟨y.toNat, by omega⟩
    have := hc.inj (dn_ch (n := j) (M := L + 1) (by omega))
    subst this
    rw [dn_btw] at e
    exact ⟨j, rfl, by omega, e.symm⟩
  · rintro ⟨j, rfl, hj, rfl⟩
    exact ⟨dn j, dn_ch (by omega), by rw [dn_last, dn_last], dn_btw x j⟩
theorem path_rs {L x : Nat} (hx : x ≤ L) : RS (lvO (nums (L + 1)) pth) x (max x (L - x)) := by
  refine ⟨dn x, dn_ch (by omega), ?_, fun y k h => ?_⟩
  · by_cases h : x ≤ L - x
    · exact ⟨_, (path_far hx).mpr ⟨L, rfl, Nat.le_refl _, by omega⟩⟩
    · exact ⟨_, (path_far hx).mpr ⟨0, rfl, Nat.zero_le _, by omega⟩⟩
  · obtain ⟨j, _, hj, rfl⟩ := (path_far hx).mp h
    omega
/-- the middle of a path -/
theorem path_ms {L : Nat} {n : Nat} {m : Int} {r : Nat} (hn : n ≤ L) (h : MS (lvO (nums (L + 1)) pth) n m) (hr : RS (lvO (nums (L + 1)) pth) m r) : m = ((L + 1) / 2 : Nat) ∧ r = (L + 1) / 2 := by
  obtain ⟨h0, h1⟩ := nums_mem.mp h.key
  obtain ⟨j, rfl⟩ : ∃ j : Nat, m = j := ⟨m.toNat, by omega⟩
  obtain ⟨_, s, hs, hall⟩ := h
  have e1 := hs.inj hr
  have e2 := hr.inj (path_rs (L := L) (x := j) (by omega))
  have q := hall (((L + 1) / 2 : Nat) : Int) _ ⟨dn n, dn _, dn_ch (by omega), dn_ch (by omega), by rw [dn_last, dn_last]⟩ (path_rs (L := L) (x := (L + 1) / 2) (by omega))
  obtain ⟨q1, q2⟩ := q
  have : max j (L - j) = (L + 1) / 2 := by omega
  have q3 := q2 (by omega)
  constructor
  · omega
  · omega
theorem prv_dn : ∀ {h x : Nat}, x < h → prv (dn h) (x : Int) = some (((x + 1 : Nat) : Int))
  | 0, x, hx => by omega
  | h + 1, x, hx => by
    obtain ⟨r, e⟩ := dn_head h
    rw [dn, e, prv]
    by_cases z : x = h
    · subst z; rw [if_pos rfl]
    · rw [if_neg (fun w => z (by omega)), ← e]
      exact prv_dn (by omega)
theorem prv_top (h : Nat) : prv (dn h) (h : Int) = none := by
  obtain ⟨r, e⟩ := dn_head h
  have nd := (dn_ch (M := h + 1) (n := h) (by omega)).nodup
  rw [e] at nd ⊢
  rw [List.nodup_cons] at nd
  exact prv_none nd.1
def upL (x : Nat) : Nat → List Int
  | 0 => [(x : Int)]
  | n + 1 => (x : Int) :: upL (x + 1) n
theorem upL_len (x : Nat) (n : Nat) : (upL x n).length = n + 1 := by
  induction n generalizing x with
  | zero => rfl
  | succ n ih => rw [upL, List.length_cons, ih]
theorem upL_range (x n : Nat) : upL x n = (List.range (n + 1)).map fun (k : Nat) => (x : Int) + k := by
  induction n generalizing x with
  | zero => simp [upL]
  | succ n ih =>
    rw [upL, List.range_succ_eq_map, List.map_cons, List.map_map, ih]
    refine List.cons_eq_cons.mpr ⟨by show (x : Int) = (x : Int) + ((0 : Nat) : Int); omega, List.map_congr_left fun k _ => ?_⟩
    show ((x + 1 : Nat) : Int) + k = (x : Int) + ((k + 1 : Nat) : Int)
    omega
theorem turn_up {M h : Nat} (hM : h < M) : ∀ {n x : Nat}, x + n = h → Ch (lvO (nums M) (turnO (dn h) pth)) x (upL x n)
  | 0, x, e => by
    refine .whole ?_
    rw [look_in (nums_mem.mpr ⟨by omega, by omega⟩)]
    unfold turnO
    rw [if_pos (dn_mem.mpr ⟨by omega, by omega⟩), show x = h by omega, prv_top]
  | n + 1, x, e => by
    refine .lean (b := ((x + 1 : Nat) : Int)) ?_ (turn_up hM (by omega))
    rw [look_in (nums_mem.mpr ⟨by omega, by omega⟩)]
    unfold turnO
    rw [if_pos (dn_mem.mpr ⟨by omega, by omega⟩), prv_dn (by omega)]
def dnT (h : Nat) : Nat → List Int
  | 0 => [(h : Int)]
  | n + 1 => ((h + (n + 1) : Nat) : Int) :: dnT h n
theorem dnT_range (h n : Nat) : dnT h n = (List.range (n + 1)).map fun (k : Nat) => ((h + n : Nat) : Int) - k := by
  induction n with
  | zero => simp [dnT]
  | succ n ih =>
    rw [dnT, List.range_succ_eq_map, List.map_cons, List.map_map, ih]
    refine List.cons_eq_cons.mpr ⟨by show ((h + (n + 1) : Nat) : Int) = ((h + (n + 1) : Nat) : Int) - ((0 : Nat) : Int); omega, List.map_congr_left fun k _ => ?_⟩
    show ((h + n : Nat) : Int) - k = ((h + (n + 1) : Nat) : Int) - ((k + 1 : Nat) : Int)
    omega
theorem turn_dn {M h : Nat} : ∀ {n : Nat}, h + n < M → Ch (lvO (nums M) (turnO (dn h) pth)) ((h + n : Nat) : Int) (dnT h n)
  | 0, e => by
    refine .whole ?_
    rw [look_in (nums_mem.mpr ⟨by omega, by omega⟩)]
    unfold turnO
    rw [if_pos (dn_mem.mpr ⟨by omega, by omega⟩), Nat.add_zero, prv_top]
  | n + 1, e => by
    refine .lean (b := ((h + n : Nat) : Int)) ?_ (turn_dn (by omega))
    rw [look_in (nums_mem.mpr ⟨by omega, by omega⟩)]
    unfold turnO
    rw [if_neg (fun z => by have := (dn_mem.mp z).2; omega)]
    unfold pth
    rw [if_neg (by omega)]
    congr 2
    omega
theorem pth_fu {n : Nat} (h : 0 < n) : fu pth (n : Int) (some ((n : Int) - 1)) = pth := funext fun x => by
  by_cases e : x = n
  · rw [e, fu_eq]; unfold pth; rw [if_neg (by omega)]
  · rw [fu_ne e]
theorem pth_fu0 : fu pth 0 none = pth := funext fun x => by
  by_cases e : x = 0
  · rw [e, fu_eq]; rfl
  · rw [fu_ne e]
theorem str_nums : ∀ i : Fin 62, (decide ((Str.ofString (toString ((i.val : Nat) : Int))).cps.size ≤ 10) && (Str.ofString (toString ((i.val : Nat) : Int))).cps.toList.all fun c => decide (c < 1114112)) = true := by decide +kernel
theorem str_num {j : Nat} (h : j < 62) : ∃ l, Str.ofString (toString ((j : Nat) : Int)) = S l ∧ Tx 10 l := by
  have q := str_nums ⟨j, h⟩
  obtain ⟨l, e⟩ := S_of (Str.ofString (toString ((j : Nat) : Int)))
  rw [Bool.and_eq_true] at q
  have q1 := of_decide_eq_true q.1
  have q2 := q.2
  rw [e] at q1 q2
  refine ⟨l, e, by simpa using q1, fun c hc => ?_⟩
  have h3 : ∀ x, x ∈ l → x < 1114112 := by simpa using q2
  exact h3 c hc
theorem log_small {j : Nat} (h : j < 64) : ((j : Nat) : Int).natAbs.log2 < 1920 := by
  rw [Int.natAbs_natCast]
  by_cases z : j = 0
  · subst z; decide
  · rw [Nat.log2_lt z]
    exact Nat.lt_of_lt_of_le h (Nat.pow_le_pow_right (show 0 < 2 by decide) (show 6 ≤ 1920 by decide))
end Pk
/-! PkH: what a law holds of what was told; comprehensions over numbers. -/
namespace Pk
open PySem PySem.Spec L2
/-! ### all but some objects stays -/
def Kp (av : List Addr) (H H' : Hp) : Prop := (∀ a u, a ∉ av → H a = some u → H' a = some u) ∧ ∀ a xs, H a = some (.tup xs) → H' a = some (.tup xs)
section
variable {av : List Addr} {H H' H1 H2 : Hp} {a d p q : Addr}
theorem Kp.of (s : Same H H') : Kp av H H' := ⟨fun a u _ e => s a u e, fun a _ e => s a _ e⟩
theorem Kp.chgD {u : HO} {kvs : List (Key × V)} (c : Chg d u H H') (e : H d = some (.dK kvs)) (hd : d ∈ av) : Kp av H H' := ⟨fun a v n w => c.2 a v (fun z => n (z ▸ hd)) w, fun a xs w => c.2 _ _ (ne_val w e fun z => by cases z) w⟩
theorem Kp.chgL {u : HO} {xs : List V} (c : Chg d u H H') (e : H d = some (.lst xs)) (hd : d ∈ av) : Kp av H H' := ⟨fun a v n w => c.2 a v (fun z => n (z ▸ hd)) w, fun a xs w => c.2 _ _ (ne_val w e fun z => by cases z) w⟩
theorem Kp.trans (h : Kp av H H1) (g : Kp av H1 H2) : Kp av H H2 := ⟨fun a u n e => g.1 a u n (h.1 a u n e), fun a xs e => g.2 a xs (h.2 a xs e)⟩
theorem Kp.sub {bv : List Addr} (h : Kp bv H H') (s : ∀ x ∈ bv, x ∈ av) : Kp av H H' := ⟨fun a u n e => h.1 a u (fun z => n (s a z)) e, h.2⟩
theorem Kp.frm {A : Ad} {dl ds : Addr} {b co : Int} {ks : List Int} {o : Int → Option Int} {k : Int → Kept} (f : Frm p dl ds H H') (h : PkAt A H p dl ds b co ks o k) (h1 : p ∈ av) (h2 : dl ∈ av) (h3 : ds ∈ av) : Kp av H H' :=
  ⟨fun a u n e => f a u (fun z => n (z ▸ h1)) (fun z => n (z ▸ h2)) (fun z => n (z ▸ h3)) e, fun a xs e => h.tup f e⟩
theorem Kp.sql {K : PySem.W.Frag} {xs : List V} (k : Kp av H H') (h : SqL K H a xs) (n : a ∉ av ∨ ∀ H', SqL K H' a xs) : SqL K H' a xs := n.elim (fun n => sql_mv h fun u e => k.1 _ _ n e) fun z => z _
/-- a script's own list is none of the new objects -/
theorem sc_of {K : PySem.W.Frag} {xs : List V} (h : SqL K H a xs) (f : ∀ d ∈ av, H d = none) : a ∉ av ∨ ∀ H', SqL K H' a xs := by
  rcases h with (h | ⟨o, h⟩) | h
  · exact .inl fun z => by rw [f a z] at h; cases h
  · exact .inl fun z => by rw [f a z] at h; cases h
  · exact .inr fun _ => .inr h
theorem KeptAt.kp {ks : List Int} {o : Int → Option Int} {k : Int → Kept} (h : KeptAt H d ks o k) (m : Kp av H H') (n : d ∉ av) : KeptAt H' d ks o k := h.mv (fun _ e => m.1 _ _ n e) m.2
theorem TextsAt.kp {ks : List Int} {tx : Int → List Nat} (h : TextsAt H d ks tx) (m : Kp av H H') (n : d ∉ av) : TextsAt H' d ks tx := m.1 _ _ n h
theorem RowsAt.kp {ks : List Int} {o : Int → Option Int} {k : Int → Kept} (h : RowsAt H d ks o k) (m : Kp av H H') (n : d ∉ av) : RowsAt H' d ks o k := h.sm (fun _ e => m.1 _ _ n e) m.2
theorem PkAt.kp {A : Ad} {p dl ds : Addr} {b co : Int} {ks : List Int} {o : Int → Option Int} {k : Int → Kept} (h : PkAt A H p dl ds b co ks o k) (m : Kp av H H') (n1 : p ∉ av) (n2 : dl ∉ av) (n3 : ds ∉ av) : PkAt A H' p dl ds b co ks o k := by
  obtain ⟨⟨dx, e⟩, l, ⟨sv, e2, kv⟩, ne⟩ := h
  exact ⟨⟨dx, m.1 _ _ n1 e⟩, m.1 _ _ n2 l, ⟨sv, m.1 _ _ n3 e2, fun n hn => (kv n hn).sm m.2⟩, ne⟩
/-! ### what was told, and how it was then -/
def Leaf (H : Hp) (av : List Addr) (x y : V) : Prop :=
  (∃ (a b : Addr) (xs : List V), x = .ref a ∧ y = .ref b ∧ a ∉ av ∧ b ∉ av ∧ H a = some (.lst xs) ∧ H b = some (.lst xs) ∧ ∀ v ∈ xs, flatB v = true ∨ ∃ c, v = .ref c) ∨
  ∃ (a b : Addr) (o : Int → Option Int) (ks : List Int), x = .ref a ∧ y = .ref b ∧ a ∉ av ∧ b ∉ av ∧ H a = some (.dK (nK (fun n => obV (o n)) ks)) ∧ H b = some (.dK (nK (fun n => obV (o n)) ks))
theorem Leaf.mv {x y : V} (h : Leaf H av x y) (k : Kp av H H') : Leaf H' av x y := by
  rcases h with ⟨a, b, xs, e1, e2, n1, n2, h1, h2, h3⟩ | ⟨a, b, o, ks, e1, e2, n1, n2, h1, h2⟩
  · exact .inl ⟨a, b, xs, e1, e2, n1, n2, k.1 _ _ n1 h1, k.1 _ _ n2 h2, h3⟩
  · exact .inr ⟨a, b, o, ks, e1, e2, n1, n2, k.1 _ _ n1 h1, k.1 _ _ n2 h2⟩
theorem Leaf.cons {x y : V} (h : Leaf H av x y) (e : H d = none) : Leaf H (d :: av) x y := by
  have nn : ∀ {a : Addr} {u : HO}, H a = some u → a ∉ av → a ∉ d :: av := fun {a u} h n z => (List.mem_cons.mp z).elim (fun z => by rw [z, e] at h; cases h) n
  rcases h with ⟨a, b, xs, e1, e2, n1, n2, h1, h2, h3⟩ | ⟨a, b, o, ks, e1, e2, n1, n2, h1, h2⟩
  · exact .inl ⟨a, b, xs, e1, e2, nn h1 n1, nn h2 n2, h1, h2, h3⟩
  · exact .inr ⟨a, b, o, ks, e1, e2, nn h1 n1, nn h2 n2, h1, h2⟩
theorem Leaf.sub {bv : List Addr} {x y : V} (h : Leaf H av x y) (s : ∀ a ∈ bv, a ∈ av) : Leaf H bv x y := by
  rcases h with ⟨a, b, xs, e1, e2, n1, n2, h1, h2, h3⟩ | ⟨a, b, o, ks, e1, e2, n1, n2, h1, h2⟩
  · exact .inl ⟨a, b, xs, e1, e2, fun z => n1 (s a z), fun z => n2 (s b z), h1, h2, h3⟩
  · exact .inr ⟨a, b, o, ks, e1, e2, fun z => n1 (s a z), fun z => n2 (s b z), h1, h2⟩
theorem Leaf.eqV {K : PySem.W.Frag} {x y : V} (h : Leaf H av x y) : EqV K H 2 x y := by
  rcases h with ⟨a, b, xs, e1, e2, _, _, h1, h2, h3⟩ | ⟨a, b, o, ks, e1, e2, _, _, h1, h2⟩
  · refine .inr (.inr (.inl ⟨a, b, xs, xs, e1, e2, .of h1, .of h2, ?_⟩))
    clear h1 h2
    induction xs with
    | nil => exact .nil
    | cons v r ih =>
      refine .cons ?_ (ih fun w hw => h3 w (List.mem_cons_of_mem _ hw))
      rcases h3 v List.mem_cons_self with f | ⟨c, rfl⟩
      · exact .inl ⟨rfl, f⟩
      · exact .inr (.inl ⟨c, rfl, rfl⟩)
  · refine .inr (.inr (.inr ⟨a, b, _, _, e1, e2, h1, h2, rfl, fun p hp => ?_⟩))
    obtain ⟨n, hn, rfl⟩ := List.mem_map.mp hp
    exact ⟨_, nK_in hn, .inl ⟨rfl, obV_flat _⟩⟩
def PairOk (H : Hp) (av : List Addr) (v : V) : Prop := ∃ (q q1 q2 : Addr) (xs ys : List V), v = .ref q ∧ q ∉ av ∧ q1 ∉ av ∧ q2 ∉ av ∧ H q = some (.lst [.ref q1, .ref q2]) ∧ H q1 = some (.lst xs) ∧ H q2 = some (.lst ys) ∧ Paired (Leaf H av) xs ys
theorem PairOk.mv {v : V} (h : PairOk H av v) (k : Kp av H H') : PairOk H' av v := by
  obtain ⟨q, q1, q2, xs, ys, e, n, n1, n2, h, h1, h2, hp⟩ := h
  exact ⟨q, q1, q2, xs, ys, e, n, n1, n2, k.1 _ _ n h, k.1 _ _ n1 h1, k.1 _ _ n2 h2, Paired.mapP hp fun _ _ z => z.mv k⟩
theorem PairOk.cons {v : V} (h : PairOk H av v) (e : H d = none) : PairOk H (d :: av) v := by
  have nn : ∀ {a : Addr} {u : HO}, H a = some u → a ∉ av → a ∉ d :: av := fun {a u} h n z => (List.mem_cons.mp z).elim (fun z => by rw [z, e] at h; cases h) n
  obtain ⟨q, q1, q2, xs, ys, ev, n, n1, n2, h, h1, h2, hp⟩ := h
  exact ⟨q, q1, q2, xs, ys, ev, nn h n, nn h1 n1, nn h2 n2, h, h1, h2, Paired.mapP hp fun _ _ z => z.cons e⟩
theorem PairOk.sub {bv : List Addr} {v : V} (h : PairOk H av v) (s : ∀ a ∈ bv, a ∈ av) : PairOk H bv v := by
  obtain ⟨q, q1, q2, xs, ys, ev, n, n1, n2, h, h1, h2, hp⟩ := h
  exact ⟨q, q1, q2, xs, ys, ev, fun z => n (s _ z), fun z => n1 (s _ z), fun z => n2 (s _ z), h, h1, h2, Paired.mapP hp fun _ _ z => z.sub s⟩
def HeldAt (H : Hp) (ph : Addr) (av : List Addr) (m : Nat) : Prop := ∃ vs : List V, H ph = some (.lst vs) ∧ vs.length = m ∧ ∀ v ∈ vs, PairOk H av v
theorem HeldAt.mv {ph : Addr} {m : Nat} (h : HeldAt H ph av m) (k : Kp av H H') (e : ∀ xs, H ph = some (.lst xs) → H' ph = some (.lst xs)) : HeldAt H' ph av m := by
  obtain ⟨vs, h1, h2, h3⟩ := h
  exact ⟨vs, e _ h1, h2, fun v hv => (h3 v hv).mv k⟩
theorem HeldAt.sm {ph : Addr} {m : Nat} (h : HeldAt H ph av m) (s : Same H H') : HeldAt H' ph av m := h.mv (.of s) fun _ e => s _ _ e
theorem HeldAt.cons {ph : Addr} {m : Nat} (h : HeldAt H ph av m) (e : H d = none) : HeldAt H ph (d :: av) m := by
  obtain ⟨vs, h1, h2, h3⟩ := h
  exact ⟨vs, h1, h2, fun v hv => (h3 v hv).cons e⟩
theorem HeldAt.sub {bv : List Addr} {ph : Addr} {m : Nat} (h : HeldAt H ph av m) (s : ∀ a ∈ bv, a ∈ av) : HeldAt H ph bv m := by
  obtain ⟨vs, h1, h2, h3⟩ := h
  exact ⟨vs, h1, h2, fun v hv => (h3 v hv).sub s⟩
/-- one pair more -/
theorem HeldAt.put {ph : Addr} {m : Nat} {v : V} (h : HeldAt H ph av m) (hph : ph ∈ av) (hv : PairOk H av v) : ∃ vs : List V, H ph = some (.lst vs) ∧ vs.length = m ∧ ∀ H', Chg ph (.lst (vs ++ [v])) H H' → HeldAt H' ph av (m + 1) := by
  obtain ⟨vs, h1, h2, h3⟩ := h
  refine ⟨vs, h1, h2, fun H' c => ⟨_, c.1, by rw [List.length_append, h2]; rfl, fun w hw => ?_⟩⟩
  have k : Kp av H H' := Kp.chgL c h1 hph
  rcases List.mem_append.mp hw with hw | hw
  · exact (h3 w hw).mv k
  · rw [List.mem_singleton] at hw
    rw [hw]
    exact hv.mv k
end
/-! ### comprehensions over numbers -/
section
variable {K : PySem.W.Frag} {k : Nat} {te : TE} {σ : St} {Q : VK} {H : Hp} {src : Addr} {l : List Int}
theorem lc_map (f : Int → V) (hs : SqL K H src (l.map V.int)) (hl : l.length ≤ 1000) (step : ∀ (n : Int) (X : Hp) (R : VK), n ∈ l → Same H X → (∀ X', Same X X' → R (f n) X') → gName k (.int n) σ X fun σ2 H2 => te σ2 H2 R)
    (q : ∀ (pc : Addr) (H' : Hp), Same H H' → H pc = none → H' pc = some (.lst (l.map f)) → Q (.ref pc) H') : LcG (Itl K src) k tYes te σ Q H := by
  refine lc_go walk_list (by rw [List.length_map]; omega) (fun D i acc H4 => H D = none ∧ Same H H4 ∧ acc = (l.take i).map f) (fun D H4 hD s4 _ => ⟨hD, s4, by simp⟩) (fun D i acc H4 hi h => h.2.1.seq hs) ?_ ?_
  · rintro D i x acc H4 H5 hi ha e ⟨hD, s4, rfl⟩ ⟨rfl, hx⟩
    rw [List.length_map] at hi
    rw [List.getElem?_map, List.getElem?_eq_getElem hi] at hx
    obtain rfl := Option.some.inj hx
    have hci : l[i] ∈ l := List.getElem_mem hi
    have ht := take_succ hi
    refine r_set rfl (r_yes ?_)
    refine iteT (step _ _ _ hci s4 fun X' sX => ?_)
    refine lc_end ha (by omega) (sX _ _ e) fun H7 c7 => ⟨hD, sm_chg (s4.trans sX) hD c7, ?_⟩
    rw [ht, List.map_append]
    rfl
  · rintro D acc H4 ⟨hD, s4, rfl⟩ e
    rw [List.length_map, List.take_of_length_le (Nat.le_refl _)] at e
    exact q D H4 s4 hD e
theorem lc_chains (cf : Int → List Int) (nd : l.Nodup) (hs : SqL K H src (l.map V.int)) (hl : l.length ≤ 1000) (step : ∀ (n : Int) (X : Hp) (R : VK), n ∈ l → Same H X → Nw X (.lst ((cf n).map V.int)) R → gName k (.int n) σ X fun σ2 H2 => te σ2 H2 R)
    (q : ∀ (pc : Addr) (H' : Hp), Same H H' → H pc = none → ListsAt H' pc l cf → Q (.ref pc) H') : LcG (Itl K src) k tYes te σ Q H := by
  refine lc_go walk_list (by rw [List.length_map]; omega) (fun D i acc H4 => H D = none ∧ Same H H4 ∧ ∃ ca : Int → Addr, acc = (l.take i).map (fun n => V.ref (ca n)) ∧ ∀ n ∈ l.take i, ca n ≠ D ∧ H4 (ca n) = some (.lst ((cf n).map V.int))) (fun D H4 hD s4 _ => ⟨hD, s4, fun _ => 0, by simp, fun n hn => by simp at hn⟩) (fun D i acc H4 hi h => h.2.1.seq hs) ?_ ?_
  · rintro D i x acc H4 H5 hi ha e ⟨hD, s4, ca, rfl, hca⟩ ⟨rfl, hx⟩
    rw [List.length_map] at hi
    rw [List.getElem?_map, List.getElem?_eq_getElem hi] at hx
    obtain rfl := Option.some.inj hx
    have hci : l[i] ∈ l := List.getElem_mem hi
    have ht := take_succ hi
    have hno : l[i] ∉ l.take i := fun z => by
      have nd := nd.sublist (List.take_sublist (i + 1) l)
      rw [ht, List.nodup_append] at nd
      exact nd.2.2 _ z _ (by simp) rfl
    refine r_set rfl (r_yes ?_)
    refine iteT (step _ _ _ hci s4 fun q1 H6 nq s6 e6 => ?_)
    generalize l[i] = one at *
    have qD : q1 ≠ D := fun z => by rw [z, e] at nq; cases nq
    refine lc_end ha (by omega) (s6 _ _ e) fun H7 c7 => ⟨hD, sm_chg (s4.trans s6) hD c7, fu ca one q1, ?_, fun n hn => ?_⟩
    · rw [ht, List.map_append]
      show _ = _ ++ [V.ref (fu ca one q1 one)]
      rw [fu_eq]
      congr 1
      exact List.map_congr_left fun n hn => by rw [fu_ne fun z : n = one => hno (by rw [← z]; exact hn)]
    · rw [ht, List.mem_append, List.mem_singleton] at hn
      by_cases z : n = one
      · rw [z, fu_eq]; exact ⟨qD, c7.2 _ _ qD e6⟩
      · rw [fu_ne z]
        obtain ⟨g2, g3⟩ := hca n (hn.resolve_right z)
        exact ⟨g2, c7.2 _ _ g2 (s6 _ _ g3)⟩
  · rintro D acc H4 ⟨hD, s4, ca, rfl, hca⟩ e
    rw [List.length_map, List.take_of_length_le (Nat.le_refl _)] at e hca
    exact q D H4 s4 hD ⟨ca, e, fun n hn => (hca n hn).2⟩
end
/-! ### lists of bases -/
def obsD (l : List Int) (o : Int → Option Int) : PyData := .list (l.map fun n => obD (o n))
theorem obsD_dp {K : PySem.W.Frag} {H : Hp} {p : Addr} {l : List Int} {o : Int → Option Int} (h : SqL K H p (l.map fun n => obV (o n))) : Dp K H (.ref p) (obsD l o) := by
  refine .lst h ?_
  clear h
  induction l with
  | nil => exact .nil
  | cons n r ih => exact .cons (obD_dp _) ih
theorem obsD_ok (l : List Int) (o : Int → Option Int) : SeqAt.shaped (obsD l o) = true := by
  have h1 : PyData.canLayAll0 (l.map fun n => obD (o n)) = true ∧ PyData.depthAll (l.map fun n => obD (o n)) ≤ 1 := by
    induction l with
    | nil => exact ⟨rfl, by simp [PyData.depthAll]⟩
    | cons n r ih =>
      have e : (obD (o n)).canLay0 = true ∧ (obD (o n)).depth ≤ 1 := by cases o n <;> simp [obD, PyData.canLay0, PyData.depth]
      exact ⟨by rw [List.map_cons, PyData.canLayAll0, e.1, ih.1]; rfl, by rw [List.map_cons, PyData.depthAll]; have := ih.2; have := e.2; omega⟩
  unfold SeqAt.shaped obsD
  rw [PyData.canLay0, h1.1, PyData.depth]
  have := h1.2
  simp
  omega
theorem cutV_last (xs : List V) : cutV xs (some (-1)) none = xs.drop (xs.length - 1) := by
  unfold cutV
  rw [HT.sIx_none]
  have e : HT.sIx xs.length 0 (some (-1)) = xs.length - 1 := by
    show (if (-1 : Int) < 0 then ((-1 : Int) + (xs.length : Int)).toNat else min (-1 : Int).toNat xs.length) = _
    rw [if_pos (by decide)]
    omega
  rw [e, List.take_of_length_le (by rw [List.length_drop]; omega)]
/-! ### stores beside -/
theorem StR.fit {b : Int} {ks : List Int} {o o' : Int → Option Int} {k k' : Int → Kept} {tx : Int → List Nat} {n : Int} {c : List Int} (h : StR b ks o k tx n o' k') (hc : Ch (lvO ks o) n c) (hb : (c.length : Int) - 1 ≤ b) : o' = o ∧ k' = k := by
  rcases h with ⟨_, _, _, h1, h2⟩ | ⟨d, m, r, cm, hd, h1, _⟩ | ⟨d, m, r, hd, h1, _⟩
  · exact ⟨h1, h2⟩
  · rw [hd.inj hc] at h1; omega
  · rw [hd.inj hc] at h1; omega
/-- a chain stays when a version more is there -/
theorem Ch.more {ks : List Int} {o : Int → Option Int} {m n : Int} {c : List Int} {x : Option Int} (h : Ch (lvO ks o) m c) (hn : n ∉ ks) : Ch (lvO (ks ++ [n]) (fu o n x)) m c := by
  have key : ∀ {i : Int} {w : Option Int}, Pk.look (lvO ks o) i = some w → Pk.look (lvO (ks ++ [n]) (fu o n x)) i = some w := fun {i w} e => by
    obtain ⟨h1, h2⟩ := look_inv e
    rw [look_in (List.mem_append_left _ h1), fu_ne (fun z : i = n => hn (by rw [← z]; exact h1)), h2]
  induction h with
  | whole e => exact .whole (key e)
  | lean e _ ih => exact .lean (key e) ih
theorem TextsAt.put {H : Hp} {d : Addr} {ks : List Int} {tx : Int → List Nat} {n : Int} {z : List Nat} (h : TextsAt H d ks tx) : ∃ kvs : List (Key × V), H d = some (.dK kvs) ∧ kvs.length = ks.length ∧ ∀ H', Chg d (.dK (putK kvs (.inl n) (.str (S z)))) H H' → TextsAt H' d (addK ks n) (fu tx n z) :=
  ⟨_, h, nK_len _ _, fun H' c => by unfold TextsAt; rw [c.1, nK_addF (g := fun l => V.str (S l))]⟩
theorem KOk.kinds {ks : List Int} {o : Int → Option Int} {k : Int → Kept} {tx : Int → List Nat} (g : Gd ks o k tx) {n : Int} (hn : n ∈ ks) : (o n = none ∧ k n = .tx (tx n)) ∨ ∃ b i gg c, o n = some b ∧ b ∈ ks ∧ k n = .ch i gg c := by
  cases e : o n with
  | none => exact .inl ⟨rfl, g.whole hn e⟩
  | some b =>
    obtain ⟨i, gg, c, h, _⟩ := g.kept hn e
    exact .inr ⟨b, i, gg, c, rfl, g.base hn e, h⟩
/-! ### a law's world: the pack, what the law keeps beside it, what it holds -/
abbrev avO (p dl ds dk dt ph : Addr) : List Addr := [p, dl, ds, dk, dt, ph]
structure Wo (A : Ad) (H : Hp) (p dl ds dk dt ph : Addr) (b co : Int) (ys ks ts : List Int) (o : Int → Option Int) (k : Int → Kept) (tx : Int → List Nat) (nh : Nat) : Prop where
  pk : PkAt A H p dl ds b co ys o k
  kp : KeptAt H dk ks o k
  tt : TextsAt H dt ts tx
  hd : HeldAt H ph (avO p dl ds dk dt ph) nh
  n1 : dk ≠ dl
  n2 : dk ≠ ds
  n3 : dt ≠ dl
  n4 : dt ≠ ds
  n5 : dk ≠ dt
structure Pu (b co : Int) (ys ks ts : List Int) (o : Int → Option Int) (k : Int → Kept) (tx : Int → List Nat) (N : Nat) : Prop where
  b0 : 0 ≤ b
  perm : ys.Perm ks
  ris : ys.Pairwise (· < ·)
  nn : ∀ n ∈ ys, 0 ≤ n
  lt : ∀ n ∈ ys, n < co
  gd : Gd ys o k tx
  sub : ∀ n ∈ ks, n ∈ ts
  sz : ∀ n ∈ ys, (tx n).length ≤ N
section
variable {A : Ad} {H H' : Hp} {p dl ds dk dt ph : Addr} {b co : Int} {ys ks ts : List Int} {o : Int → Option Int} {k : Int → Kept} {tx : Int → List Nat} {nh N : Nat}
theorem Wo.sm (w : Wo A H p dl ds dk dt ph b co ys ks ts o k tx nh) (s : Same H H') : Wo A H' p dl ds dk dt ph b co ys ks ts o k tx nh :=
  ⟨w.pk.sm s, w.kp.sm s, s _ _ w.tt, w.hd.sm s, w.n1, w.n2, w.n3, w.n4, w.n5⟩
theorem Wo.some (w : Wo A H p dl ds dk dt ph b co ys ks ts o k tx nh) : ∀ a ∈ avO p dl ds dk dt ph, H a ≠ none := by
  obtain ⟨h1, h2, h3⟩ := w.pk.some3
  obtain ⟨ka, h4, _⟩ := w.kp
  have h5 : H dt = _ := w.tt
  obtain ⟨vs, h6, _⟩ := w.hd
  intro a ha
  simp only [List.mem_cons, List.not_mem_nil, or_false] at ha
  rcases ha with rfl | rfl | rfl | rfl | rfl | rfl
  · exact h1
  · exact h2
  · exact h3
  · rw [h4]; exact nofun
  · rw [h5]; exact nofun
  · rw [h6]; exact nofun
theorem Wo.new (w : Wo A H p dl ds dk dt ph b co ys ks ts o k tx nh) {a : Addr} (e : H a = none) : a ∉ avO p dl ds dk dt ph := fun z => w.some a z e
theorem Wo.ip (w : Wo A H p dl ds dk dt ph b co ys ks ts o k tx nh) : ∃ dx, H p = .some (.ins A.cPack dx (fsP b dl ds co)) := w.pk.ip
/-- what was told is held -/
theorem Wo.put (w : Wo A H p dl ds dk dt ph b co ys ks ts o k tx nh) {v : V} (hv : PairOk H (avO p dl ds dk dt ph) v) : ∃ vs : List V, H ph = .some (.lst vs) ∧ vs.length = nh ∧ ∀ H', Chg ph (.lst (vs ++ [v])) H H' → Wo A H' p dl ds dk dt ph b co ys ks ts o k tx (nh + 1) := by
  obtain ⟨vs, e, l, put⟩ := w.hd.put (by simp) hv
  refine ⟨vs, e, l, fun H' c => ?_⟩
  have np : ∀ {a : Addr} {u : HO}, H a = .some u → (∀ xs, u ≠ .lst xs) → H' a = .some u := fun {a u} h n => c.2 _ _ (ne_val h e (n _)) h
  exact ⟨w.pk.mvL e c, w.kp.mv (fun _ z => np z (fun _ z => by cases z)) (fun _ _ z => np z (fun _ z => by cases z)), np (show H dt = _ from w.tt) (fun _ z => by cases z), put H' c, w.n1, w.n2, w.n3, w.n4, w.n5⟩
/-- the pack has done something -/
theorem Wo.deed {b' co' : Int} {ys' : List Int} {o' : Int → Option Int} {k' : Int → Kept} (w : Wo A H p dl ds dk dt ph b co ys ks ts o k tx nh) (f : Frm p dl ds H H') : KeptAt H' dk ks o k ∧ TextsAt H' dt ts tx ∧ HeldAt H' ph (avO p dl ds dk dt ph) nh := by
  have m : Kp (avO p dl ds dk dt ph) H H' := Kp.frm f w.pk (by simp) (by simp) (by simp)
  obtain ⟨⟨dx, e1⟩, e2, ⟨sv, e3, _⟩, _⟩ := id w.pk
  obtain ⟨ka, e4, _⟩ := id w.kp
  have e5 : H dt = _ := w.tt
  exact ⟨w.kp.mv (fun _ z => f _ _ (ne_val z e1 fun z => by cases z) w.n1 w.n2 z) m.2, f _ _ (ne_val e5 e1 fun z => by cases z) w.n3 w.n4 e5, w.hd.mv m fun _ z => w.pk.lst f z⟩
/-- a text more -/
theorem Wo.text (w : Wo A H p dl ds dk dt ph b co ys ks ts o k tx nh) {n : Int} {z : List Nat} (hn : n ∉ ks) : ∃ kvs : List (Key × V), H dt = .some (.dK kvs) ∧ kvs.length = ts.length ∧ ∀ H', Chg dt (.dK (putK kvs (.inl n) (.str (S z)))) H H' → Wo A H' p dl ds dk dt ph b co ys ks (addK ts n) o k (fu tx n z) nh := by
  obtain ⟨kvs, e, l, put⟩ := w.tt.put (n := n) (z := z)
  refine ⟨kvs, e, l, fun H' c => ?_⟩
  have m : Kp (avO p dl ds dk dt ph) H H' := Kp.chgD c e (by simp)
  exact ⟨w.pk.mv e c w.n3 w.n4, w.kp.mv (fun _ z => c.2 _ _ w.n5 z) m.2, put H' c, w.hd.mv m fun _ z => c.2 _ _ (ne_val z e fun z => by cases z) z, w.n1, w.n2, w.n3, w.n4, w.n5⟩
theorem Pu.mem (u : Pu b co ys ks ts o k tx N) {n : Int} : n ∈ ys ↔ n ∈ ks := u.perm.mem_iff
theorem Pu.new (u : Pu b co ys ks ts o k tx N) : co ∉ ys := fun z => by have := u.lt co z; omega
/-- a version more -/
theorem Pu.add (u : Pu b co ys ks ts o k tx N) {oth : Option Int} {z : List Nat} {M : Nat} (hl : ys.length < 1000) (h0 : 0 ≤ co) (ho : ∀ x, oth = .some x → x ∈ ys) (hz : z.length ≤ M) (hN : N ≤ M) (hM : M ≤ 100000) (oz : Ok z) : Pu b (co + 1) (ys ++ [co]) (ks ++ [co]) (addK ts co) (fu o co oth) (fu k co (layK tx oth z)) (fu tx co z) M := by
  refine ⟨u.b0, u.perm.append_right _, ?_, fun n hn => ?_, fun n hn => ?_, u.gd.add u.new hl ho ⟨by omega, oz⟩, fun n hn => ?_, fun n hn => ?_⟩
  · rw [List.pairwise_append]
    exact ⟨u.ris, by simp, fun x hx y hy => by rw [List.mem_singleton] at hy; rw [hy]; exact u.lt x hx⟩
  · rcases List.mem_append.mp hn with h | h
    · exact u.nn n h
    · rw [List.mem_singleton] at h; omega
  · rcases List.mem_append.mp hn with h | h
    · have := u.lt n h; omega
    · rw [List.mem_singleton] at h; omega
  · rcases List.mem_append.mp hn with h | h
    · exact mem_addK.mpr (.inl (u.sub n h))
    · rw [List.mem_singleton] at h; exact mem_addK.mpr (.inr h)
  · by_cases e : n = co
    · rw [e, fu_eq]; exact hz
    · rw [fu_ne e]
      have := u.sz n ((List.mem_append.mp hn).resolve_right fun z => e (List.mem_singleton.mp z))
      omega
end
/-! ### isinstance(pack, Pack) -/
structure InsB (A : Ad) : Prop where
  a : PySem.W.findIn A.K (.ref A.cPack) "__class__" = some (some (.builtin "object.__class__"))
  n : PySem.W.specialIn A.K (.builtin "object.__class__") "__get__" = some (some (.builtin "getset_descriptor.__get__"))
  t : PySem.W.takesIn A.K (.builtin "object.__class__") = some true
  m : PySem.W.mroIn A.K A.cPack (.type "object") = some true
def insB (A : Ad) : Bool := PySem.W.findIn A.K (.ref A.cPack) "__class__" == some (some (.builtin "object.__class__")) && PySem.W.specialIn A.K (.builtin "object.__class__") "__get__" == some (some (.builtin "getset_descriptor.__get__"))
  && PySem.W.takesIn A.K (.builtin "object.__class__") == some true && PySem.W.mroIn A.K A.cPack (.type "object") == some true
theorem insB_ok {A : Ad} (h : insB A = true) : InsB A := by
  unfold insB at h
  simp only [Bool.and_eq_true, beq_iff_eq] at h
  obtain ⟨⟨⟨h1, h2⟩, h3⟩, h4⟩ := h
  exact ⟨h1, h2, h3, h4⟩
theorem r_isPk {A : Ad} {H : Hp} {Q : VK} {p dx : Addr} {fs : List (Str × V)} (i : InsB A) (pk : PkOk A) (e : H p = some (.ins A.cPack dx fs)) (h : Q (.bl true) H) : rIsi A.K [.ref p, .ref A.cPack] H Q :=
  ⟨.ref p, .ref A.cPack, .ref A.cPack, .ref A.cPack, true, rfl, .own _, .base (.ins e pk.cl i.a i.n i.t i.m), by unfold PySem.W.kitOne; rw [if_pos (by simp)], h⟩
/-! ### a law's dict made anew -/
section
variable {A : Ad} {H H1 H2 : Hp} {p dl ds dk dk2 dt ph : Addr} {b co co' : Int} {ys ys' ks ks' ts : List Int} {o o' : Int → Option Int} {k k' : Int → Kept} {tx : Int → List Nat} {nh N : Nat}
theorem Wo.swap (w : Wo A H p dl ds dk dt ph b co ys ks ts o k tx nh) (nd : H dk2 = none) : HeldAt H ph (avO p dl ds dk2 dt ph) nh ∧ dk2 ≠ p ∧ dk2 ≠ dl ∧ dk2 ≠ ds ∧ dk2 ≠ dt ∧ dk2 ≠ ph := by
  have h := w.new nd
  simp only [List.mem_cons, List.not_mem_nil, or_false, not_or] at h
  refine ⟨(w.hd.cons nd).sub fun a ha => ?_, h.1, h.2.1, h.2.2.1, h.2.2.2.2.1, h.2.2.2.2.2⟩
  simp only [List.mem_cons, List.not_mem_nil, or_false] at ha ⊢
  rcases ha with h | h | h | h | h | h <;> simp [h]
theorem Wo.again (w : Wo A H p dl ds dk dt ph b co ys ks ts o k tx nh) (nd : H dk2 = none) (s : Same H H1) (hK : KeptAt H1 dk2 ks' o' k') (f : Frm p dl ds H1 H2) (hP : PkAt A H2 p dl ds b co' ys' o' k') : Wo A H2 p dl ds dk2 dt ph b co' ys' ks' ts o' k' tx nh := by
  obtain ⟨h1, n0, n1, n2, n3, _⟩ := w.swap nd
  have w1 := w.sm s
  have m : Kp (avO p dl ds dk2 dt ph) H1 H2 := Kp.frm f w1.pk (by simp) (by simp) (by simp)
  obtain ⟨dx, e1⟩ := w1.ip
  obtain ⟨ka, e4, _⟩ := id hK
  have e5 : H1 dt = _ := w1.tt
  exact ⟨hP, hK.mv (fun _ z => f _ _ n0 n1 n2 z) m.2, f _ _ (ne_val e5 e1 fun z => by cases z) w.n3 w.n4 e5, (h1.sm s).mv m fun _ z => w1.pk.lst f z, n1, n2, w.n3, w.n4, n3⟩
theorem Wo.copy (w : Wo A H p dl ds dk dt ph b co ys ks ts o k tx nh) (nd : H dk2 = none) (s : Same H H1) {kvs : List (Key × V)} (e : H dk = .some (.dK kvs)) (e2 : H1 dk2 = .some (.dK kvs)) : Wo A H1 p dl ds dk2 dt ph b co ys ks ts o k tx nh := by
  obtain ⟨ka, e4, hka⟩ := id w.kp
  rw [e4] at e; cases e
  exact w.again nd s ⟨ka, e2, fun n hn => by obtain ⟨kv, h1, h2⟩ := hka n hn; exact ⟨kv, s _ _ h1, h2.sm fun _ _ z => s _ _ z⟩⟩ (.of fun _ _ z => z) (w.pk.sm s)
theorem Pu.turn (u : Pu b co ys ks ts o k tx N) {n : Int} {c : List Int} (hc : Ch (lvO ys o) n c) : Pu b co ys ks ts (turnO c o) (fu (turnP c k) n (.tx (tx n))) tx N := ⟨u.b0, u.perm, u.ris, u.nn, u.lt, u.gd.turn hc, u.sub, u.sz⟩
end
/-! ### addresses that differ -/
def Al (H : Hp) (xs : List Addr) : Prop := ∀ x ∈ xs, H x ≠ none
theorem Al.sm {H H' : Hp} {xs : List Addr} (h : Al H xs) (s : Same H H') : Al H' xs := fun x hx => by
  obtain ⟨u, e⟩ := Option.ne_none_iff_exists'.mp (h x hx)
  rw [s _ _ e]; exact nofun
theorem Al.no {H : Hp} {xs : List Addr} {d : Addr} (h : Al H xs) (e : H d = none) : d ∉ xs := fun z => h d z e
theorem Al.nil {H : Hp} : Al H [] := fun x hx => by cases hx
theorem Al.cons {H : Hp} {xs : List Addr} {d : Addr} {u : HO} (h : Al H xs) (e : H d = some u) : Al H (d :: xs) := fun x hx => by
  rcases List.mem_cons.mp hx with rfl | hx
  · rw [e]; exact nofun
  · exact h x hx
abbrev Dj (xs ys : List Addr) : Prop := ∀ x ∈ xs, x ∉ ys
theorem Dj.nil {xs : List Addr} : Dj xs [] := fun _ _ z => by cases z
theorem Dj.cons {xs ys : List Addr} {d : Addr} (h : Dj xs ys) (n : d ∉ xs) : Dj xs (d :: ys) := fun x hx hy => (List.mem_cons.mp hy).elim (fun z => n (z ▸ hx)) (h x hx)
theorem Dj.app {xs ys zs : List Addr} (h : Dj xs zs) (g : Dj ys zs) : Dj (xs ++ ys) zs := fun x hx => (List.mem_append.mp hx).elim (h x) (g x)
theorem Dj.swap {xs ys : List Addr} (h : Dj xs ys) : Dj ys xs := fun x hx hy => h x hy hx
theorem Dj.sub {xs ys zs : List Addr} (h : Dj xs ys) (s : ∀ x ∈ zs, x ∈ ys) : Dj xs zs := fun x hx hy => h x hx (s x hy)
/-! ### leaning -/
/-- what is due when n is told to lean on m: 0 it leans, 1 a ring, 2 too far -/
def Due (lv : List (Int × Option Int)) (b n m : Int) (w : Nat) : Prop := ∃ c, Ch lv m c ∧ ((w = 1 ∧ n ∈ c) ∨ (n ∉ c ∧ ∃ h : Nat, (∀ x d, Ch lv x d → n ∈ d → d.idxOf n ≤ h) ∧ (h = 0 ∨ ∃ x d, Ch lv x d ∧ n ∈ d ∧ d.idxOf n = h) ∧ ((w = 0 ∧ (c.length : Int) + h ≤ b) ∨ (w = 2 ∧ b < (c.length : Int) + h))))
theorem height_inj {lv : List (Int × Option Int)} {n : Int} {h j : Nat} (a1 : ∀ x d, Ch lv x d → n ∈ d → d.idxOf n ≤ h) (a2 : h = 0 ∨ ∃ x d, Ch lv x d ∧ n ∈ d ∧ d.idxOf n = h) (b1 : ∀ x d, Ch lv x d → n ∈ d → d.idxOf n ≤ j) (b2 : j = 0 ∨ ∃ x d, Ch lv x d ∧ n ∈ d ∧ d.idxOf n = j) : h = j := by
  rcases a2 with rfl | ⟨x, d, h1, h2, h3⟩
  · rcases b2 with rfl | ⟨y, e, g1, g2, g3⟩
    · rfl
    · have := a1 y e g1 g2; omega
  · have q := b1 x d h1 h2
    rcases b2 with rfl | ⟨y, e, g1, g2, g3⟩
    · omega
    · have := a1 y e g1 g2; omega
def dueS (w : Nat) : Str := if w = 0 then Str.ofString "leans" else if w = 1 then Str.ofString "ring" else Str.ofString "far"
theorem Due.mem_eq {ys ks : List Int} {o : Int → Option Int} {b n m : Int} {w : Nat} (h : ∀ n, n ∈ ys ↔ n ∈ ks) (g : Due (lvO ks o) b n m w) : Due (lvO ys o) b n m w := by
  have f : ∀ {x c}, Ch (lvO ys o) x c → Ch (lvO ks o) x c := Ch.mem_eq h
  have f2 : ∀ {x c}, Ch (lvO ks o) x c → Ch (lvO ys o) x c := Ch.mem_eq fun n => (h n).symm
  obtain ⟨c, hc, g⟩ := g
  refine ⟨c, f2 hc, ?_⟩
  rcases g with g | ⟨g1, j, g2, g3, g4⟩
  · exact .inl g
  · exact .inr ⟨g1, j, fun x d hx => g2 x d (f hx), g3.imp id fun ⟨x, d, hx, r⟩ => ⟨x, d, f2 hx, r⟩, g4⟩
/-! ### forgetting -/
abbrev FgT := Option Int × (Int → Option Int) × (Int → Kept)
def fgS (tx : Int → List Nat) (st : FgT) (h : Int) : FgT := (some (st.1.getD h), fu st.2.1 h st.1, fu st.2.2 h (layK tx st.1 (tx h)))
def heirs (ks : List Int) (o : Int → Option Int) (n : Int) : List Int := ks.filter fun x => decide (o x = some n)
def fgA (tx : Int → List Nat) (ks : List Int) (o : Int → Option Int) (k : Int → Kept) (n : Int) : FgT := (heirs ks o n).foldl (fgS tx) (o n, o, k)
def gone1 (ks : List Int) (n : Int) : List Int := ks.filter fun x => decide (x ≠ n)
theorem mem_gone {ks : List Int} {n x : Int} : x ∈ gone1 ks n ↔ x ∈ ks ∧ x ≠ n := by unfold gone1; rw [List.mem_filter]; simp
theorem mem_heirs {ks : List Int} {o : Int → Option Int} {n x : Int} : x ∈ heirs ks o n ↔ x ∈ ks ∧ o x = some n := by unfold heirs; rw [List.mem_filter]; simp
theorem fg_not {tx : Int → List Nat} {x : Int} : ∀ {l : List Int} {st : FgT}, x ∉ l → (l.foldl (fgS tx) st).2.1 x = st.2.1 x ∧ (l.foldl (fgS tx) st).2.2 x = st.2.2 x
  | [], st, _ => ⟨rfl, rfl⟩
  | h :: r, st, hx => by
    rw [List.mem_cons, not_or] at hx
    obtain ⟨e1, e2⟩ := fg_not (tx := tx) (st := fgS tx st h) hx.2
    rw [List.foldl_cons, e1, e2]
    exact ⟨fu_ne hx.1, fu_ne hx.1⟩
theorem fg_mem {tx : Int → List Nat} {b : Int} : ∀ {l : List Int} {st : FgT}, (l.foldl (fgS tx) st).1 = some b → st.1 = some b ∨ b ∈ l
  | [], st, h => .inl h
  | x :: r, st, h => by
    rw [List.foldl_cons] at h
    rcases fg_mem (tx := tx) h with h | h
    · have h : some (st.1.getD x) = some b := h
      cases e : st.1 with
      | none => rw [e] at h; cases h; exact .inr List.mem_cons_self
      | some c => rw [e] at h; exact .inl h
    · exact .inr (List.mem_cons_of_mem _ h)
theorem Ch.fu {ks : List Int} {o : Int → Option Int} {m x : Int} {c : List Int} {v : Option Int} (h : Ch (lvO ks o) m c) (hx : x ∉ c) : Ch (lvO ks (Pk.fu o x v)) m c := by
  have key : ∀ {i : Int} {w : Option Int}, i ≠ x → Pk.look (lvO ks o) i = some w → Pk.look (lvO ks (Pk.fu o x v)) i = some w := fun {i w} n e => by
    obtain ⟨h1, h2⟩ := look_inv e
    rw [look_in h1, fu_ne n, h2]
  induction h with
  | whole e => exact .whole (key (fun z => hx (by simp [z])) e)
  | lean e _ ih => exact .lean (key (fun z => hx (by simp [z])) e) (ih fun z => hx (List.mem_cons_of_mem _ z))
/-- where a forgetting stands: l are the heirs to come -/
structure FgI (ks : List Int) (tx : Int → List Nat) (n : Int) (st : FgT) (l : List Int) : Prop where
  gd : Gd ks st.2.1 st.2.2 tx
  ch : ∀ b, st.1 = some b → ∃ c, b ∈ ks ∧ Ch (lvO ks st.2.1) b c ∧ ∀ x ∈ l, x ∉ c
  nn : st.1 ≠ some n
  le : ∀ x ∈ ks, st.2.1 x = some n → x ∈ l
theorem FgI.step {ks : List Int} {tx : Int → List Nat} {n h : Int} {st : FgT} {l : List Int} (g : FgI ks tx n st (h :: l)) (hk : h ∈ ks) (hn : h ≠ n) (nd : (h :: l).Nodup) : FgI ks tx n (fgS tx st h) l := by
  obtain ⟨oth, o, k⟩ := st
  rw [List.nodup_cons] at nd
  obtain ⟨g1, g2, g3, g4⟩ := g
  have le : ∀ x ∈ ks, fu o h oth x = some n → x ∈ l := fun x hx e => by
    by_cases z : x = h
    · rw [z, fu_eq] at e; exact absurd e g3
    · rw [fu_ne z] at e; exact (List.mem_cons.mp (g4 x hx e)).resolve_left z
  cases oth with
  | none =>
    refine ⟨g1.whole1 (n := h), fun b e => ?_, fun e => hn (Option.some.inj e), le⟩
    obtain rfl : h = b := Option.some.inj e
    exact ⟨[h], hk, .whole (by show look (lvO ks (fu o h none)) h = _; rw [look_in hk, fu_eq]), fun x hx z => nd.1 (by rw [List.mem_singleton] at z; rw [← z]; exact hx)⟩
  | some b =>
    obtain ⟨c, hb, hc, hl⟩ := g2 b rfl
    have hh := hl h List.mem_cons_self
    refine ⟨g1.lean hk hb hc hh, fun b' e => ?_, g3, le⟩
    obtain rfl : b = b' := Option.some.inj e
    exact ⟨c, hb, hc.fu hh, fun x hx => hl x (List.mem_cons_of_mem _ hx)⟩
section
variable {ks : List Int} {o : Int → Option Int} {k : Int → Kept} {tx : Int → List Nat} {n : Int}
theorem heirs_ne (g : Gd ks o k tx) {x : Int} (h : x ∈ heirs ks o n) : x ≠ n := fun e => by
  obtain ⟨h1, h2⟩ := mem_heirs.mp h
  subst e
  obtain ⟨rk, w⟩ := g.fo.wf
  have := (w x x (by rw [look_in h1, h2])).2
  omega
theorem FgI.begin (g : Gd ks o k tx) (hn : n ∈ ks) : FgI ks tx n (o n, o, k) (heirs ks o n) := by
  refine ⟨g, fun b e => ?_, fun e => ?_, fun x hx e => mem_heirs.mpr ⟨hx, e⟩⟩
  · have hb := g.base hn e
    obtain ⟨c, hc, _⟩ := g.ch hb
    refine ⟨c, hb, hc, fun x hx hxc => ?_⟩
    obtain ⟨h1, h2⟩ := mem_heirs.mp hx
    have hcx : Ch (lvO ks o) x (x :: n :: c) := .lean (by rw [look_in h1, h2]) (.lean (by rw [look_in hn]; exact congrArg some e) hc)
    have nd := hcx.nodup
    rw [List.nodup_cons] at nd
    exact nd.1 (List.mem_cons_of_mem _ hxc)
  · exact heirs_ne g (mem_heirs.mpr ⟨hn, e⟩) rfl
theorem heirs_nd (g : Gd ks o k tx) : (heirs ks o n).Nodup := g.nd.sublist List.filter_sublist
theorem FgI.at (g : Gd ks o k tx) (hn : n ∈ ks) : ∀ i, i ≤ (heirs ks o n).length → FgI ks tx n (((heirs ks o n).take i).foldl (fgS tx) (o n, o, k)) ((heirs ks o n).drop i)
  | 0, _ => FgI.begin g hn
  | i + 1, hi => by
    have h := FgI.at g hn i (by omega)
    have li : i < (heirs ks o n).length := by omega
    rw [List.drop_eq_getElem_cons li] at h
    rw [take_succ li, List.foldl_append]
    have hm := List.getElem_mem li
    refine h.step (mem_heirs.mp hm).1 (heirs_ne g hm) ?_
    rw [← List.drop_eq_getElem_cons li]
    exact (heirs_nd g).sublist (List.drop_sublist _ _)
theorem FgI.all (g : Gd ks o k tx) (hn : n ∈ ks) : FgI ks tx n (fgA tx ks o k n) [] := by
  have h := FgI.at g hn _ (Nat.le_refl _)
  rw [List.take_length, List.drop_length] at h
  exact h
theorem Gd.forget (g : Gd ks o k tx) (hn : n ∈ ks) : Gd (gone1 ks n) (fgA tx ks o k n).2.1 (fgA tx ks o k n).2.2 tx := by
  have h := FgI.all g hn
  exact h.gd.drop fun x hx e => by have := h.le x hx e; cases this
theorem heirs_perm {ys : List Int} (h : ys = ks) : heirs ys o n = heirs ks o n := by rw [h]
end
section
variable {K : PySem.W.Frag} {k : Nat} {te : TE} {tt : TT} {σ : St} {Q : VK} {H : Hp} {src : Addr} {l : List Int}
theorem lc_filter (P : Int → Bool) (hs : SqL K H src (l.map V.int)) (hl : l.length ≤ 1000) (stepT : ∀ (n : Int) (X : Hp) (R : Bool → Hp → Prop), n ∈ l → Same H X → R (P n) X → gName k (.int n) σ X fun σ2 H2 => tt σ2 H2 R)
    (stepE : ∀ (n : Int) (X : Hp) (R : VK), n ∈ l → Same H X → R (.int n) X → gName k (.int n) σ X fun σ2 H2 => te σ2 H2 R)
    (q : ∀ (pc : Addr) (H' : Hp), Same H H' → H pc = none → H' pc = some (.lst ((l.filter P).map V.int)) → Q (.ref pc) H') : LcG (Itl K src) k tt te σ Q H := by
  refine lc_go walk_list (by rw [List.length_map]; omega) (fun D i acc H4 => H D = none ∧ Same H H4 ∧ acc = ((l.take i).filter P).map V.int) (fun D H4 hD s4 _ => ⟨hD, s4, by simp⟩) (fun D i acc H4 hi h => h.2.1.seq hs) ?_ ?_
  · rintro D i x acc H4 H5 hi ha e ⟨hD, s4, rfl⟩ ⟨rfl, hx⟩
    rw [List.length_map] at hi
    rw [List.getElem?_map, List.getElem?_eq_getElem hi] at hx
    obtain rfl := Option.some.inj hx
    have hci : l[i] ∈ l := List.getElem_mem hi
    have ht := take_succ hi
    refine stepT _ _ _ hci s4 (r_ite (fun hp => ?_) fun hp => ?_)
    · refine stepE _ _ _ hci s4 ?_
      refine lc_end ha (by omega) e fun H7 c7 => ⟨hD, sm_chg s4 hD c7, ?_⟩
      rw [ht, List.filter_append, List.map_append]
      congr 1
      simp [hp]
    · refine lc_not ha e ⟨hD, s4, ?_⟩
      rw [ht, List.filter_append, List.map_append]
      simp [hp]
  · rintro D acc H4 ⟨hD, s4, rfl⟩ e
    rw [List.length_map, List.take_of_length_le (Nat.le_refl _)] at e
    exact q D H4 s4 hD e
end
theorem dec_ob (x : Option Int) (n : Int) : decide (obV x = V.int n) = decide (x = some n) := by
  cases x with
  | none => exact (decide_eq_false fun z => by cases z).trans (decide_eq_false fun z => by cases z).symm
  | some y =>
    by_cases e : y = n
    · subst e; simp [obV]
    · rw [decide_eq_false (show ¬ obV (some y) = V.int n from fun z => e (V.int.inj z)), decide_eq_false fun z => e (Option.some.inj z)]
theorem r_eqOI {K : PySem.W.Frag} {H : Hp} {Q : VK} {x : Option Int} {n : Int} (h : Q (.bl (decide (x = some n))) H) : rEqG K (obV x) (.int n) H Q := r_eqV (by cases x <;> rfl) (by rw [dec_ob]; exact h)
theorem r_neOI {K : PySem.W.Frag} {H : Hp} {Q : VK} {x : Option Int} {n : Int} (h : Q (.bl (!decide (x = some n))) H) : rNeG K (obV x) (.int n) H Q := r_neV (by cases x <;> rfl) (by rw [dec_ob]; exact h)
theorem r_dpop {td ty : TE} {σ : St} {H : Hp} {Q : VK} (h : td σ H fun x H1 => ∃ a, x = .ref a ∧ IsD H1 a ∧ ty σ H1 fun y H2 => ∃ kvs k v, H2 a = some (.dK kvs) ∧ y = kV k ∧ valV kvs k = some v ∧ Q v (upd H2 a (.dK (dropK kvs k)))) : tDPop1 td ty σ H Q := h
theorem Pu.forget {b co : Int} {ys ks ts : List Int} {o : Int → Option Int} {k : Int → Kept} {tx : Int → List Nat} {N : Nat} (u : Pu b co ys ks ts o k tx N) {n : Int} (hn : n ∈ ys) : Pu b co (gone1 ys n) (gone1 ys n) ts (fgA tx ys o k n).2.1 (fgA tx ys o k n).2.2 tx N :=
  ⟨u.b0, .refl _, u.ris.sublist List.filter_sublist, fun x hx => u.nn x (mem_gone.mp hx).1, fun x hx => u.lt x (mem_gone.mp hx).1, u.gd.forget hn, fun x hx => u.sub x (u.mem.mp (mem_gone.mp hx).1), fun x hx => u.sz x (mem_gone.mp hx).1⟩
theorem gone1_len (ks : List Int) (n : Int) : (gone1 ks n).length ≤ ks.length := List.length_filter_le _ _
theorem r_catL {H : Hp} {Q : VK} {l b : Addr} {xs zs : List V} (h1 : H l = some (.lst xs)) (h2 : H b = some (.lst zs)) (hl : xs.length + zs.length ≤ sizeLine) (q : Nw H (.lst (xs ++ zs)) Q) : rAdd3 (.ref l) (.ref b) H Q := .inr (.inr ⟨l, b, xs, zs, rfl, rfl, h1, h2, hl, q.go⟩)
theorem NoVer.sm {H H' : Hp} {ks : List Int} {v : V} (h : NoVer H ks v) (s : Same H H') : NoVer H' ks v := by
  rcases h with h | h | h | h | ⟨a, xs, h1, h2⟩ | ⟨a, xs, h1, h2⟩ | ⟨a, xs, h1, h2⟩
  · exact .inl h
  · exact .inr (.inl h)
  · exact .inr (.inr (.inl h))
  · exact .inr (.inr (.inr (.inl h)))
  · exact .inr (.inr (.inr (.inr (.inl ⟨a, xs, h1, s _ _ h2⟩))))
  · exact .inr (.inr (.inr (.inr (.inr (.inl ⟨a, xs, h1, s _ _ h2⟩)))))
  · exact .inr (.inr (.inr (.inr (.inr (.inr ⟨a, xs, h1, s _ _ h2⟩)))))
end Pk
/-! PkT: try with several clauses: each names one class or a tuple of classes, with or without a name; calls of methods in a try. -/
namespace PySem.W
open PySem PySem.Spec PySem.Calls PyProof.Rows
section
variable {M : Model} {K : Frag}
theorem exm_tup5 {c1 c2 c3 c4 c5 cls : Value} {tp e : Addr} {b : Bool} {h : Heap} (X : K.In h) (LT : Looks M h (typeOf (.ref e)) cls) (hp : h.get? tp = some { cls := .type "tuple", data := .seq [c1, c2, c3, c4, c5].toArray }) (hx : exmAny K cls [c1, c2, c3, c4, c5] = some b) :
    Looks M h (excMatches (.ref e) (.ref tp)) b := by
  intro A Q E s k₀ q
  obtain ⟨hh, g, d, tk, os⟩ := s
  have k : ∀ b o, h.get? b = some o → hh.get? b = some o := k₀
  have LT0 : Looks M h (isInstance (.ref tp) (.type "tuple")) true := ((Looks.ld hp).andThen .now).andThen (Looks.of_pure isSubtype_tuple_tuple)
  obtain ⟨b1, d1, x1, y1, z1⟩ := exmAny_cons hx
  obtain ⟨e1, S1⟩ := exm_cls (M := M) X x1
  have e1 := e1.keeps k
  have S1 := S1.keeps k
  obtain ⟨b2, d2, x2, y2, z2⟩ := exmAny_cons y1
  obtain ⟨e2, S2⟩ := exm_cls (M := M) X x2
  have e2 := e2.keeps k
  have S2 := S2.keeps k
  obtain ⟨b3, d3, x3, y3, z3⟩ := exmAny_cons y2
  obtain ⟨e3, S3⟩ := exm_cls (M := M) X x3
  have e3 := e3.keeps k
  have S3 := S3.keeps k
  obtain ⟨b4, d4, x4, y4, z4⟩ := exmAny_cons y3
  obtain ⟨e4, S4⟩ := exm_cls (M := M) X x4
  have e4 := e4.keeps k
  have S4 := S4.keeps k
  obtain ⟨b5, d5, x5, y5, z5⟩ := exmAny_cons y4
  obtain ⟨e5, S5⟩ := exm_cls (M := M) X x5
  have e5 := e5.keeps k
  have S5 := S5.keeps k
  have w5 : some false = some d5 := y5
  cases w5
  have LT := LT.keeps k
  have LT0 := LT0.keeps k
  have hp' := k _ _ hp
  subst z1 z2 z3 z4 z5
  unfold excMatches
  refine wpAny_bind (LT0.at ?_)
  dsimp only
  rw [if_pos rfl]
  first
    | refine wpAny_bind (wpAny_seqItems hp' rfl ?_)
    | refine wpAny_bind (wpAny_bind (wpAny_seqItems hp' rfl (wpAny_pure ?_)))
  dsimp only [Option.getD_some, Option.getD]
  cases b1 <;> cases b2 <;> cases b3 <;> cases b4 <;> cases b5 <;> ((repeat (first | simp only [List.forIn_cons, List.forIn_nil, Bool.not_true, Bool.false_eq_true, if_false, if_true] | lk)); exact q)
theorem exm_one1 {c cls : Value} {e : Addr} {b : Bool} {h : Heap} (X : K.In h) (LT : Looks M h (typeOf (.ref e)) cls) (hx : exmAny K cls [c] = some b) : Looks M h (excMatches (.ref e) c) b := by
  obtain ⟨b1, d1, x1, y1, z1⟩ := exmAny_cons hx
  have w : some false = some d1 := y1
  cases w
  rw [Bool.or_false] at z1
  subst z1
  exact exm_one X LT x1
end
end PySem.W
namespace L2
open PySem PySem.Spec PyProof.Rows
theorem flyingZ_keeps {B h h' : Heap} {l : List Env} {a : Addr} {Z : Obj → Prop} (x : HandSPX.FlyingZ B l a Z h) (k : ∀ b o, h.get? b = some o → h'.get? b = some o) : HandSPX.FlyingZ B l a Z h' := by
  obtain ⟨f1, f2, f3, oe, vs, T, oT, ts, he, hz, hd, h1, hn, hne, hT, hdT, h3⟩ := x
  exact ⟨fun b o q => k b o (f1 b o q), f2, f3.of_keeps fun b o q _ => ⟨o, k b o q, rfl⟩, oe, vs, T, oT, ts, k _ _ he, hz, hd, h1, hn, hne, k _ _ hT, hdT, h3⟩
/-- the test of an except clause: what it evaluates to, and what it matches -/
def ClT (X : Cx) (t : Expr) (cs : List Value) : Prop := ∀ {a : Addr} {pn : List (Addr × Obj)} {σ : St} {H : Hp} {s : Shared} {cls : Value} {b : Bool} {Q : Bool → Shared → Prop} {E : Value → Shared → Prop}, Inv (X.suite a pn) [] σ H s →
  PySem.W.Looks (model X.prog X.w) s.heap (typeOf (.ref a)) cls → PySem.W.exmAny X.K cls cs = some b → (∀ h', (∀ q o, s.heap.get? q = some o → h'.get? q = some o) → Q b { s with heap := h' }) →
  wpAny (model X.prog X.w) (X.A.mark (some (.ref a))) (eval t X.env) (fun c s₁ => wpAny (model X.prog X.w) (X.A.mark (some (.ref a))) (excMatches (.ref a) c) Q E s₁) E s
theorem names_ld {X : Cx} {x : Str} {c : Value} {np : Pos} (hc : Names X x c) {a : Addr} {pn : List (Addr × Obj)} {σ : St} {H : Hp} {s : Shared} (S : Inv (X.suite a pn) [] σ H s) {Q : Value → Shared → Prop} {E : Value → Shared → Prop} (q : Q c s) :
    wpAny (model X.prog X.w) (X.A.mark (some (.ref a))) (eval (.Name x np) X.env) Q E s := by
  obtain ⟨hg, hdbg, hm | ⟨hm, hv, hnn⟩⟩ := hc
  · exact ld_glob (X := X.suite a pn) S hg hm q hdbg
  · exact ld_blt (X := X.suite a pn) S hg hm hv q hnn hdbg
theorem clt_one {X : Cx} {x : Str} {c : Value} {np : Pos} (hc : Names X x c) : ClT X (.Name x np) [c] := fun {a pn σ H s cls b Q E} S LT he q =>
  names_ld hc S ((PySem.W.exm_one1 S.kIn LT he).here (q s.heap fun _ _ z => z))
theorem clt_4 {X : Cx} {x1 x2 x3 x4 : Str} {c1 c2 c3 c4 : Value} {p1 p2 p3 p4 tpos : Pos} {kk : Nat} (n1 : Names X x1 c1) (n2 : Names X x2 c2) (n3 : Names X x3 c3) (n4 : Names X x4 c4) :
    ClT X (.Tuple [.Name x1 p1, .Name x2 p2, .Name x3 p3, .Name x4 p4] kk tpos) [c1, c2, c3, c4] := fun {a pn σ H s cls b Q E} S LT he q => by
  refine wpAny_Tuple ?_
  refine wpAny_items_cons (names_ld n1 S ?_)
  refine wpAny_items_cons (names_ld n2 S ?_)
  refine wpAny_items_cons (names_ld n3 S ?_)
  refine wpAny_items_cons (names_ld n4 S ?_)
  refine wpAny_items_nil ⟨by size_fits, ?_⟩
  have kp : ∀ q o, s.heap.get? q = some o → (s.heap.push { cls := .type "tuple", data := .seq [c1, c2, c3, c4].toArray }).get? q = some o := fun _ _ z => Heap.get?_push_of_some _ z
  exact (PySem.W.exm_tup4 (S.kIn.keeps kp) (LT.keeps kp) (Heap.get?_push_size s.heap rfl) he).here (q _ kp)
theorem clt_5 {X : Cx} {x1 x2 x3 x4 x5 : Str} {c1 c2 c3 c4 c5 : Value} {p1 p2 p3 p4 p5 tpos : Pos} {kk : Nat} (n1 : Names X x1 c1) (n2 : Names X x2 c2) (n3 : Names X x3 c3) (n4 : Names X x4 c4) (n5 : Names X x5 c5) :
    ClT X (.Tuple [.Name x1 p1, .Name x2 p2, .Name x3 p3, .Name x4 p4, .Name x5 p5] kk tpos) [c1, c2, c3, c4, c5] := fun {a pn σ H s cls b Q E} S LT he q => by
  refine wpAny_Tuple ?_
  refine wpAny_items_cons (names_ld n1 S ?_)
  refine wpAny_items_cons (names_ld n2 S ?_)
  refine wpAny_items_cons (names_ld n3 S ?_)
  refine wpAny_items_cons (names_ld n4 S ?_)
  refine wpAny_items_cons (names_ld n5 S ?_)
  refine wpAny_items_nil ⟨by size_fits, ?_⟩
  have kp : ∀ q o, s.heap.get? q = some o → (s.heap.push { cls := .type "tuple", data := .seq [c1, c2, c3, c4, c5].toArray }).get? q = some o := fun _ _ z => Heap.get?_push_of_some _ z
  exact (PySem.W.exm_tup5 (S.kIn.keeps kp) (LT.keeps kp) (Heap.get?_push_size s.heap rfl) he).here (q _ kp)
abbrev ClR := List Value × Option Nat × (Addr → Value → Option Addr → TS)
/-- the ends of a suite whose name (slot i) goes at its end -/
def endAs : Option Nat → Ends → Ends
  | none, D => D
  | some i, D => { nx := fun σ' H' => D.nx (σ'.set i none) H', rt := D.rt, bk := fun σ' H' => D.bk (σ'.set i none) H', ct := fun σ' H' => D.ct (σ'.set i none) H' }
def setAs : Option Nat → Addr → St → St
  | none, _, σ => σ
  | some i, a, σ => σ.set i (some (.ref a))
/-- what the clauses wish of an exception of the body, one after the other -/
def wAny (K : PySem.W.Frag) (Wout : WX) (D : Ends) : List ClR → WX
  | [] => Wout
  | (cs, n, ts) :: r => fun cls d σ H => ∃ b, PySem.W.exmAny K cls cs = some b ∧ (b = true → ∀ a, H a = none → ts a cls d (endAs n D) (setAs n a σ) H) ∧ (b = false → wAny K Wout D r cls d σ H)
inductive ClsOk (X : Cx) : List ExceptHandler → List ClR → Prop
  | nil : ClsOk X [] []
  | one {t : Expr} {cs : List Value} {ts : Addr → Value → Option Addr → TS} {b₀ : Stmt} {suite : List Stmt} {pos' : Pos} {hds : List ExceptHandler} {l : List ClR} (hc : ClT X t cs)
      (hsu : ∀ (a : Addr) (oe : Obj) (cls : Value) (d : Option Addr) (pn : List (Addr × Obj)), Zc cls d oe → (∃ vs, oe.data = .fields vs) → PSs (X.suite a ((a, oe) :: pn)) (b₀ :: suite) (ts a cls d)) (r : ClsOk X hds l) :
      ClsOk X (.ExceptHandler (some t) none (b₀ :: suite) pos' :: hds) ((cs, none, ts) :: l)
  | as {t : Expr} {cs : List Value} {n : Str} {i : Nat} {ts : Addr → Value → Option Addr → TS} {b₀ : Stmt} {suite : List Stmt} {pos' : Pos} {hds : List ExceptHandler} {l : List ClR} (hN : X.N.Nodup) (hi : X.N[i]? = some n) (hln : X.env.kindOf n = some .local) (hc : ClT X t cs)
      (hsu : ∀ (a : Addr) (oe : Obj) (cls : Value) (d : Option Addr) (pn : List (Addr × Obj)), Zc cls d oe → (∃ vs, oe.data = .fields vs) → PSs (X.suite a ((a, oe) :: pn)) (b₀ :: suite) (ts a cls d)) (r : ClsOk X hds l) :
      ClsOk X (.ExceptHandler (some t) (some n) (b₀ :: suite) pos' :: hds) ((cs, some i, ts) :: l)
section
variable {X : Cx} {body : List Stmt} {h₀ : ExceptHandler} {hds : List ExceptHandler} {l : List ClR} {pos : Pos} {tb : WX → TS} {Wout : WX}
theorem ps_try_any (hs : X.stack = X.env :: X.outer) (hf : X.env.frame = some X.env.locals) (tk : Takes X Wout)
    (hb : ∀ (W : WX) (pn : List (Addr × Obj)) (xe : Value → Shared → Prop), Takes (X.tr pn xe) W → PassesOwn (model X.prog X.w) X.A X.env xe → PSs (X.tr pn xe) body (tb W))
    (hh : ClsOk X (h₀ :: hds) l) : PS X (.Try body (h₀ :: hds) [] [] pos) (fun D σ H => tb (wAny X.K Wout D l) D σ H) := by
  refine ⟨fun pins s σ H D I h => ?_⟩
  have ok := I.ok
  have hfr : X.A.frames = some (X.env :: X.outer) := by rw [ok.frames, hs]
  refine wpAny_Try_except ?_
  refine wpAny_mono ((hb (wAny X.K Wout D l) (X.pn ++ pins) (fun e s₁ => wpAny (model X.prog X.w) X.A (noteFrame e X.env) (fun _ s₂ => wpAny (model X.prog X.w) X.A (setFlight e none) (fun _ s₃ =>
    wpAny (model X.prog X.w) X.A (handleBy e X.env (h₀ :: hds)) (SP X pins D) X.xe s₃) X.xe s₂) X.xe s₁) (fun u s' xx => ?_) PassesOwn.looking).run [] s σ H D (I.toTry _) h) (fun f s1 hsp => ?_) (fun e s1 he => he)
  · -- the catch
    obtain ⟨a, B, sI, pins', σ', H', cls, d, rfl, J', nb, up, sky, na, os, ag, w⟩ := xx
    have J : Inv X pins σ' H' sI := J'.ofTry ok
    have sky' : Sky B (X.env :: X.outer) a (Zc cls d) X.env.locals s'.heap := by rw [← hs]; exact sky
    show wpAny (model X.prog X.w) X.A (noteFrame (.ref a) X.env) _ _ _
    refine Sky.land Zc.steady hfr hf sky' fun h3 fl3 up3 => ?_
    have notFr : ∀ {h : Heap} {o : Obj} {vs : Array Value}, h.FunFrames B (X.env :: X.outer) → h.get? a = some o → o.data = .fields vs → a ∉ frs (X.env :: X.outer) := fun {h o vs} ff e dd hm => by
      obtain ⟨_, o', e', hnf⟩ := ff.mem hm
      rw [e] at e'; cases e'
      exact hnf _ dd
    have go : ∀ {hds' : List ExceptHandler} {l' : List ClR}, ClsOk X hds' l' → ∀ (h3 : Heap), HandSPX.FlyingZ B (X.env :: X.outer) a (Zc cls d) h3 → s'.heap.UpToSlots h3 → wAny X.K Wout D l' cls d σ' H' →
        wpAny (model X.prog X.w) X.A (handleBy (.ref a) X.env hds') (SP X pins D) X.xe { s' with heap := h3 } := by
      intro hds' l' hk
      induction hk with
      | nil =>
        intro h3 fl3 up3 w
        refine wpAny_handleBy_nil ?_
        have J3 : Inv X pins σ' H' { s' with heap := h3 } := J.landed nb fl3.1 (up.trans up3) os ag
        obtain ⟨k1, k2, k3, oe, vs, T, oT, ts', he, hz, hd, h1, hr⟩ := id fl3
        unfold PySem.passOn
        refine wpAny_bind (wpAny_field he hd h1 ?_)
        rw [if_neg (show ¬ ((Value.ref T == Value.none) = true) from by simp)]
        have fin : wpAny (model X.prog X.w) X.A (setFlight (.ref a) X.env.frame) (fun _ s4 => wpAny (model X.prog X.w) X.A (throw (.ref a) : Sem Flow) (SP X pins D) X.xe s4) X.xe { s' with heap := h3 } := by
          rw [hf]
          refine HandSPX.setFlight_upZ fl3 fun h4 hh4 up4 => wpAny_throw (tk _ _ ?_)
          exact ⟨a, B, sI, pins, σ', H', cls, d, rfl, J, nb, (up.trans up3).trans up4, .inr (.inr (by rw [hs]; exact hh4)), na, os, ag, w⟩
        first
          | exact wpAny_bind (wpAny_pure (wpAny_bind fin))
          | exact wpAny_bind fin
      | @one t cs ts b₀ suite pos' hds2 l2 hc hsu r ih =>
        intro h3 fl3 up3 w
        obtain ⟨b, hb1, hyes, hno⟩ := w
        have J3 : Inv X pins σ' H' { s' with heap := h3 } := J.landed nb fl3.1 (up.trans up3) os ag
        obtain ⟨oe3, vs3, he3, hz3, hd3⟩ := fl3.there
        have nfr := notFr fl3.2.2.1 he3 hd3
        have nL : a ≠ X.env.locals := fun z => nfr (List.mem_filterMap.mpr ⟨X.env, List.mem_cons_self, by rw [hf, z]⟩)
        have nF : a ∉ X.fs := fun hm => by
          obtain ⟨e, he, q⟩ := List.mem_filterMap.mp hm
          exact nfr (List.mem_filterMap.mpr ⟨e, List.mem_cons_of_mem _ he, q⟩)
        have S3 := J3.suite he3 hd3 na nL nF
        refine wpAny_handleBy_cons (codeAny_handlers_test ?_) (by intro q; cases q)
        have LT : PySem.W.Looks (model X.prog X.w) h3 (typeOf (.ref a)) cls := fun A Q E s k q => wpAny_typeOf_ref (k _ _ he3) (by rw [hz3.1]; exact q)
        refine hc S3 LT hb1 fun h4 k4 => ?_
        have fl4 := flyingZ_keeps fl3 k4
        have up34 : s'.heap.UpToSlots h4 := up3.trans (Heap.UpToSlots.of_keeps k4)
        cases b with
        | true =>
          refine codeAny_handlers_suite ?_
          refine HandSPX.lands_againZ fl4 fun h5 fl5 up5 => ?_
          have J5 : Inv X pins σ' H' { s' with heap := h5 } := J.landed nb fl5.1 ((up.trans up34).trans up5) os ag
          obtain ⟨oe5, vs5, he5, hz5, hd5⟩ := fl5.there
          have S5 := J5.suite he5 hd5 na nL nF
          refine wpAny_mono ((hsu a oe5 cls d (X.pn ++ pins) hz5 ⟨_, hd5⟩).run [] _ _ H' _ S5 (hyes rfl a na)) (fun f s6 hsp => ?_) (fun _ _ z => False.elim z)
          cases f with
          | next =>
            obtain ⟨σ6, H6, S6, q6⟩ := hsp
            exact ⟨_, _, S6.unsuite ok, q6⟩
          | brk =>
            obtain ⟨σ6, H6, S6, q6⟩ := hsp
            exact ⟨_, _, S6.unsuite ok, q6⟩
          | cont =>
            obtain ⟨σ6, H6, S6, q6⟩ := hsp
            exact ⟨_, _, S6.unsuite ok, q6⟩
          | ret u =>
            obtain ⟨v6, σ6, H6, S6, r6, q6⟩ := hsp
            exact ⟨_, _, _, S6.unsuite ok, r6, q6⟩
        | false =>
          show wpAny _ X.A (handleBy (.ref a) X.env hds2) _ _ _
          exact ih h4 fl4 up34 (hno rfl)
      | @as t cs n i ts b₀ suite pos' hds2 l2 hN hi hln hc hsu r ih =>
        intro h3 fl3 up3 w
        obtain ⟨b, hb1, hyes, hno⟩ := w
        have hloc : Loc X.env.scope n := .inl hln
        have J3 : Inv X pins σ' H' { s' with heap := h3 } := J.landed nb fl3.1 (up.trans up3) os ag
        obtain ⟨oe3, vs3, he3, hz3, hd3⟩ := fl3.there
        have nfr := notFr fl3.2.2.1 he3 hd3
        have nL : a ≠ X.env.locals := fun z => nfr (List.mem_filterMap.mpr ⟨X.env, List.mem_cons_self, by rw [hf, z]⟩)
        have nF : a ∉ X.fs := fun hm => by
          obtain ⟨e, he, q⟩ := List.mem_filterMap.mp hm
          exact nfr (List.mem_filterMap.mpr ⟨e, List.mem_cons_of_mem _ he, q⟩)
        have S3 := J3.suite he3 hd3 na nL nF
        refine wpAny_handleBy_cons (codeAny_handlers_test ?_) (by intro q; cases q)
        have LT : PySem.W.Looks (model X.prog X.w) h3 (typeOf (.ref a)) cls := fun A Q E s k q => wpAny_typeOf_ref (k _ _ he3) (by rw [hz3.1]; exact q)
        refine hc S3 LT hb1 fun h4 k4 => ?_
        have fl4 := flyingZ_keeps fl3 k4
        have up34 : s'.heap.UpToSlots h4 := up3.trans (Heap.UpToSlots.of_keeps k4)
        cases b with
        | true =>
          refine codeAny_handlers_suite_as ?_
          refine HandSPX.lands_againZ fl4 fun h5 fl5 up5 => ?_
          have J5 : Inv X pins σ' H' { s' with heap := h5 } := J.landed nb fl5.1 ((up.trans up34).trans up5) os ag
          obtain ⟨oe5, vs5, he5, hz5, hd5⟩ := fl5.there
          have S5 := J5.suite he5 hd5 na nL nF
          refine store_ok (X := X.suite a ((a, oe5) :: (X.pn ++ pins))) (v := .ref a) S5 hN hi hloc rfl (fun s6 S6 => ?_) (.inr hln)
          refine wpAny_mono ((hsu a oe5 cls d (X.pn ++ pins) hz5 ⟨_, hd5⟩).run [] s6 _ H' _ S6 (hyes rfl a na)) (fun f s7 hsp => ?_) (fun _ _ z => False.elim z)
          have end_ : ∀ {σ6 : St} {H6 : Hp} {Q : Shared → Prop}, Inv (X.suite a ((a, oe5) :: (X.pn ++ pins))) [] σ6 H6 s7 → (∀ s8, Inv X pins (σ6.set i none) H6 s8 → Q s8) →
              wpAny (model X.prog X.w) X.A (do bindName X.env n .none; unbindBehindTheSuite X.env n pos') (fun _ s8 => Q s8) X.xe s7 := fun {σ6 H6 Q} S6 hq => gone_ok (S6.unsuite ok) hN hi hln hq
          cases f with
          | next =>
            obtain ⟨σ6, H6, S6, q6⟩ := hsp
            exact end_ S6 fun s7 J7 => ⟨_, _, J7, q6⟩
          | brk =>
            obtain ⟨σ6, H6, S6, q6⟩ := hsp
            exact end_ S6 fun s7 J7 => ⟨_, _, J7, q6⟩
          | cont =>
            obtain ⟨σ6, H6, S6, q6⟩ := hsp
            exact end_ S6 fun s7 J7 => ⟨_, _, J7, q6⟩
          | ret u =>
            obtain ⟨v6, σ6, H6, S6, r6, q6⟩ := hsp
            exact end_ S6 fun s7 J7 => ⟨_, _, _, J7, r6, q6⟩
        | false =>
          show wpAny _ X.A (handleBy (.ref a) X.env hds2) _ _ _
          exact ih h4 fl4 up34 (hno rfl)
    exact go hh h3 fl3 up3 w
  · cases f with
    | next =>
      obtain ⟨σ', H', J', q⟩ := hsp
      exact wpAny_execs_nil ⟨σ', H', J'.ofTry ok, q⟩
    | brk =>
      obtain ⟨σ', H', J', q⟩ := hsp
      exact ⟨σ', H', J'.ofTry ok, q⟩
    | cont =>
      obtain ⟨σ', H', J', q⟩ := hsp
      exact ⟨σ', H', J'.ofTry ok, q⟩
    | ret u =>
      obtain ⟨v, σ', H', J', r, q⟩ := hsp
      exact ⟨v, σ', H', J'.ofTry ok, r, q⟩
end
/-- isinstance(e, c), e the exception that the suite holds: its class and state told by the clause -/
def rIsX (K : PySem.W.Frag) (cls : Value) (d : Option Addr) (a : Addr) : List V → Hp → VK → Prop := fun xs H Q => ∃ D, cls = .ref D ∧ d = none ∧ ExcC K D ∧ rIsE K D a xs H Q
theorem call_isX {X : Cx} {a : Addr} {cls : Value} {d : Option Addr} {oe : Obj} {pn : List (Addr × Obj)} (hz : Zc cls d oe) (hf : ∃ vs, oe.data = .fields vs) : CallR (X.suite a ((a, oe) :: pn)) (.builtin "isinstance") (rIsX X.K cls d a) := by
  intro pins s σ H xs us Q I r h
  obtain ⟨D, rfl, rfl, C, h⟩ := h
  exact call_isE C hz hf pins s σ H xs us Q I r h
/-! ### calls of methods, new instances, where the exceptions are taken by a try -/
section
variable {X : Cx} {CX : CXT} {k : Nat} {f C : Addr} {fd : FuncData} {ps : List Str} {sp : Sp} {E : St → XK} {x m : Str} {p pos apos : Pos} {e o : Expr} {es : List Expr} {ta : TE} {t : TA}
def tMethW (C : Addr) (m : Str) (sp : Sp) (E : St → XK) (ta : TE) (t : TA) : TE := fun σ H Q => ta σ H fun x H1 => ∃ a dx fs, x = .ref a ∧ H1 a = some (.ins C dx fs) ∧ fs.lookup m = none ∧ t σ H1 fun vs H2 => sp (x :: vs) H2 Q (E σ)
theorem pe_methW {pl : Sem Bool} (he : PE X o ta) (c : Cls X.K C) (hm : Meth X.K C m f) (F : FnOk X.prog X.w X.K X.mg X.base CX k f fd ps sp) (hr : Room k X.A) (hb : Binds X.K fd ps []) (hx : ∀ σ, PassesAt CX X σ (E σ)) (ha : PA X (e :: es) t)
    (hst : starEach (e :: es) X.env = (false, eval e X.env) :: starEach es X.env := by rfl) (hpl : (backTo pos (starEach es X.env)).any (·.1) = false := by rfl)
    (ht : eval (.Call (.Attribute o m apos) (e :: es) [] pos) X.env = (do
      let ov ← eval o X.env
      standAt apos.atName
      let (f, first) ← holding [ov] (getMethod ov m pl)
      callWith pos f first (backTo pos (starEach (e :: es) X.env)) (backToKw pos (keywordEach [] X.env))) := by rfl) :
    PE X (.Call (.Attribute o m apos) (e :: es) [] pos) (tMethW C m sp E ta t) := by
  refine ⟨fun pins s σ H Q I h => ?_⟩
  refine PySem.W.methodCall_KW (pl := pl) (thn (he.run pins s σ H _ I h) fun u s1 ⟨x, H1, I1, rx, a, dx, fs, ex, ea, l, q⟩ => ?_) ht
  subst ex
  obtain rfl : u = Value.ref a := rx
  refine getmeth_ok I1 ea c hm l ?_
  refine PySem.W.callWith_K (first := [.ref a]) (h₀ := X.base) I.ok.mod.kin hm.kp (thn (ha.run pos pins s1 σ H1 _ I1 q) fun us s2 ⟨vs, H2, I2, r, q2⟩ => ⟨I2.kIn, ?_⟩) hst hpl
  exact run_fnS (us := .ref a :: us) (vs := .ref a :: vs) F hr hb (hx σ) I2 (.cons rfl r) q2
theorem pe_methW0 {pl : Sem Bool} (he : PE X o ta) (c : Cls X.K C) (hm : Meth X.K C m f) (F : FnOk X.prog X.w X.K X.mg X.base CX k f fd ps sp) (hr : Room k X.A) (hb : Binds X.K fd ps []) (hx : ∀ σ, PassesAt CX X σ (E σ))
    (ht : eval (.Call (.Attribute o m apos) [] [] pos) X.env = (do
      let ov ← eval o X.env
      standAt apos.atName
      let (f, first) ← holding [ov] (getMethod ov m pl)
      callWith pos f first (backTo pos (starEach [] X.env)) (backToKw pos (keywordEach [] X.env))) := by rfl) :
    PE X (.Call (.Attribute o m apos) [] [] pos) (tMethW C m sp E ta tNil) := by
  refine ⟨fun pins s σ H Q I h => ?_⟩
  refine PySem.W.methodCall_KW (pl := pl) (thn (he.run pins s σ H _ I h) fun u s1 ⟨x, H1, I1, rx, a, dx, fs, ex, ea, l, q⟩ => ?_) ht
  subst ex
  obtain rfl : u = Value.ref a := rx
  refine getmeth_ok I1 ea c hm l ?_
  exact PySem.W.callWith_K0 (first := [.ref a]) I1.kIn hm.kp (run_fnS (us := [.ref a]) (vs := [.ref a]) F hr hb (hx σ) I1 (.cons rfl .nil) q)
theorem run_makeW {pins : List (Addr × Obj)} {σ : St} {H : Hp} {s : Shared} {Q : VK} {us : List Value} {vs : List V} (M : Mk X.K C f) (F : FnOk X.prog X.w X.K X.mg X.base CX k f fd ps sp) (hr : Room (k + 1) X.A) (hb : Binds X.K fd ps [])
    (hx : PassesAt CX X σ (E σ)) (I : Inv X pins σ H s) (r : Vals vs us)
    (h : ∀ x dx, H x = none → H dx = none → dx ≠ x → sp (.ref x :: vs) (upd (upd H dx (.own x)) x (.ins C dx [])) (fun v H2 => v = .non ∧ Q (.ref x) H2) (E σ)) :
    wpAny (model X.prog X.w) X.A (call (.ref C) us) (EP X pins σ Q) X.xe s := by
  have hq := h (s.heap.objs.size + 1) s.heap.objs.size (I.hok.fresh (Nat.le_succ _)) (I.hok.fresh (Nat.le_refl _)) (Nat.ne_of_lt (Nat.lt_succ_self _))
  have I2 := Inv.made (C := C) I
  have r2 : Vals (V.ref (s.heap.objs.size + 1) :: vs) (Value.ref (s.heap.objs.size + 1) :: us) := .cons rfl r
  have hl : (Value.ref (s.heap.objs.size + 1) :: us).length = ps.length := by
    have e := r2.length
    rw [F.len _ _ _ _ hq] at e
    exact e.symm
  have b := hb _ (Value.ref (s.heap.objs.size + 1) :: us) I2.kIn (by rw [List.append_nil]; exact hl)
  rw [List.append_nil] at b
  refine wpAny_call (make_map (f := f) I.kIn M.makes M.init (beq_iff_eq.mp M.fn) (codeAny_mono (F.run _ X.stack _ _ ⟨Value.ref (s.heap.objs.size + 1) :: us, []⟩ (Value.ref (s.heap.objs.size + 1) :: us) _ _ (E σ) (hr.make C us [])
    (I2.env0.make C us []) b r2 hq) fun r s' hq' => ?_))
  cases r with
  | error e => exact hx pins _ _ e s' I2 hq'
  | ok fl =>
    cases fl with
    | ret u =>
      obtain ⟨v, H', I3, rv, ev, q3⟩ := I2.after hq'
      subst ev
      exact ⟨rv, ⟨V.ref (s.heap.objs.size + 1), H', I3, rfl, q3⟩⟩
    | next => exact False.elim hq'
    | brk => exact False.elim hq'
    | cont => exact False.elim hq'
def tMakeW (C : Addr) (sp : Sp) (E : St → XK) (t : TA) : TE := fun σ H Q => t σ H fun vs H1 => ∀ x dx, H1 x = none → H1 dx = none → dx ≠ x →
  sp (.ref x :: vs) (upd (upd H1 dx (.own x)) x (.ins C dx [])) (fun v H2 => v = .non ∧ Q (.ref x) H2) (E σ)
theorem pe_makeW (M : Mk X.K C f) (F : FnOk X.prog X.w X.K X.mg X.base CX k f fd ps sp) (hr : Room (k + 1) X.A) (hg : Gl X x) (hm : X.mg x = some (.ref C)) (hb : Binds X.K fd ps []) (hx : ∀ σ, PassesAt CX X σ (E σ))
    (ha : PA X (e :: es) t) (hdb : (x == ("__debug__" : Str)) = false := by decide) (he : starEach (e :: es) X.env = (false, eval e X.env) :: starEach es X.env := by rfl) (hpl : (backTo pos (starEach es X.env)).any (·.1) = false := by rfl) :
    PE X (.Call (.Name x p) (e :: es) [] pos) (tMakeW C sp E t) := by
  refine ⟨fun pins s σ H Q I h => ?_⟩
  refine wpAny_Call_Name_kw (ld_glob I hg hm ?_ hdb)
  refine PySem.W.callWith_K (h₀ := X.base) I.ok.mod.kin M.kp (thn (ha.run pos pins s σ H _ I h) fun us s1 ⟨vs, H1, I1, r, q⟩ => ⟨I1.kIn, ?_⟩) he hpl
  exact run_makeW M F hr hb (hx σ) I1 r q
end
end L2
namespace Pk
open PySem PySem.Spec L2
/-- a try none of whose exceptions goes past its clauses -/
def tTry (K : PySem.W.Frag) (l : List ClR) (tb : WX → TS) : TS := fun D σ H => tb (wAny K (fun _ _ _ _ => False) D l) D σ H
section
variable {K : PySem.W.Frag} {l : List ClR} {tb : WX → TS} {nx : St → Hp → Prop} {rt : VK} {bk ct : St → Hp → Prop} {σ : St} {H : Hp} {t : TA} {ta : TE} {Q : VK}
theorem r_try (h : tb (wAny K (fun _ _ _ _ => False) ⟨nx, rt, bk, ct⟩ l) ⟨nx, rt, bk, ct⟩ σ H) : tTry K l tb ⟨nx, rt, bk, ct⟩ σ H := h
theorem r_callS {sp : Sp} {E : St → XK} (h : t σ H fun vs H1 => sp vs H1 Q (E σ)) : tCallS sp E t σ H Q := h
theorem r_methW {C : Addr} {m : Str} {sp : Sp} {E : St → XK} (h : ta σ H fun x H1 => ∃ a dx fs, x = .ref a ∧ H1 a = some (.ins C dx fs) ∧ fs.lookup m = none ∧ t σ H1 fun vs H2 => sp (x :: vs) H2 Q (E σ)) : tMethW C m sp E ta t σ H Q := h
theorem w_yes {cs : List Value} {n : Option Nat} {ts : Addr → Value → Option Addr → TS} {r : List ClR} {Wout : WX} {D : Ends} {cls : Value} {d : Option Addr} (e : PySem.W.exmAny K cls cs = some true)
    (h : ∀ a, H a = none → ts a cls d (endAs n D) (setAs n a σ) H) : wAny K Wout D ((cs, n, ts) :: r) cls d σ H := ⟨true, e, fun _ => h, fun z => by cases z⟩
theorem w_no {cs : List Value} {n : Option Nat} {ts : Addr → Value → Option Addr → TS} {r : List ClR} {Wout : WX} {D : Ends} {cls : Value} {d : Option Addr} (e : PySem.W.exmAny K cls cs = some false)
    (h : wAny K Wout D r cls d σ H) : wAny K Wout D ((cs, n, ts) :: r) cls d σ H := ⟨false, e, (fun z => by cases z), fun _ => h⟩
/-- what isinstance asks of an own class of errors, as a test -/
def excB (K : PySem.W.Frag) (D : Addr) : Bool := PySem.W.findIn K (.ref D) "__getattribute__" == some (some (.builtin "BaseException.__getattribute__")) && PySem.W.findIn K (.ref D) "__getattr__" == some none && PySem.W.subIn K (.ref D) (.type "BaseException") == some true
  && PySem.W.hasDictIn K D && PySem.W.findIn K (.ref D) "__class__" == some (some (.builtin "object.__class__")) && PySem.W.specialIn K (.builtin "object.__class__") "__get__" == some (some (.builtin "getset_descriptor.__get__"))
  && PySem.W.takesIn K (.builtin "object.__class__") == some true && PySem.W.mroIn K D (.type "object") == some true
theorem excB_ok {K : PySem.W.Frag} {D : Addr} (h : excB K D = true) : ExcC K D := by
  unfold excB at h
  simp only [Bool.and_eq_true, beq_iff_eq] at h
  obtain ⟨⟨⟨⟨⟨⟨⟨h1, h2⟩, h3⟩, h4⟩, h5⟩, h6⟩, h7⟩, h8⟩ := h
  exact ⟨h1, h2, h3, h4, h5, h6, h7, h8⟩
theorem r_isX {D a : Addr} (C : ExcC K D) (e : PySem.W.kitOne K (.ref D) (.type "ValueError") = some true) (h : Q (.bl true) H) : rIsX K (.ref D) none a [.ref a, .ty "ValueError"] H Q :=
  ⟨D, rfl, rfl, C, .ty "ValueError", .type "ValueError", true, rfl, fun u r => r, e, h⟩
end
end Pk
/-! ### the head's run -/
namespace Pk
section
open PySem PySem.Spec L2
/-- what the classes must say -/
structure Okk (A : Ad) : Prop where
  pe : PySem.W.exmAny A.K (.ref A.cTooFar) [.ref A.cPackError] = some true
  tf : PySem.W.exmAny A.K (.ref A.cTooFar) [.ref A.cTooFar] = some true
  ve : PySem.W.kitOne A.K (.ref A.cTooFar) (.type "ValueError") = some true
  x : ExcC A.K A.cTooFar
  i : InsB A
def okB (A : Ad) : Bool := PySem.W.exmAny A.K (.ref A.cTooFar) [.ref A.cPackError] == some true && PySem.W.exmAny A.K (.ref A.cTooFar) [.ref A.cTooFar] == some true && PySem.W.kitOne A.K (.ref A.cTooFar) (.type "ValueError") == some true && excB A.K A.cTooFar && insB A
theorem okB_ok {A : Ad} (h : okB A = true) : Okk A := by
  unfold okB at h
  simp only [Bool.and_eq_true, beq_iff_eq] at h
  obtain ⟨⟨⟨⟨h1, h2⟩, h3⟩, h4⟩, h5⟩ := h
  exact ⟨h1, h2, h3, excB_ok h4, insB_ok h5⟩

def topS (i : Nat) : Stmt := PySem.Challenge.pw_packdelta_k10_rooted.main.body.getD i (.Pass ⟨0, 0, 0, 0⟩)
abbrev s_done : Stmt := topS 10
abbrev n_done : List Str := ["text", "change", "at", "end"]
abbrev a_done : List Str := ["text", "change"]
abbrev s_turned : Stmt := topS 11
abbrev n_turned : List Str := ["change"]
abbrev a_turned : List Str := ["change"]
abbrev s_alike_ahead : Stmt := topS 12
abbrev n_alike_ahead : List Str := ["one", "other", "many"]
abbrev a_alike_ahead : List Str := ["one", "other"]
abbrev s_alike_behind : Stmt := topS 13
abbrev n_alike_behind : List Str := ["one", "other", "most", "many"]
abbrev a_alike_behind : List Str := ["one", "other", "most"]
abbrev s_change_of : Stmt := topS 14
abbrev n_change_of : List Str := ["old", "new", "at", "many"]
abbrev a_change_of : List Str := ["old", "new"]
abbrev s_chain_of : Stmt := topS 16
abbrev n_chain_of : List Str := ["bases", "number", "chain"]
abbrev a_chain_of : List Str := ["bases", "number"]
abbrev s_tree_of : Stmt := topS 17
abbrev n_tree_of : List Str := ["bases", "number", "whole", "one"]
abbrev a_tree_of : List Str := ["bases", "number"]
abbrev s_sides : Stmt := topS 18
abbrev n_sides : List Str := ["bases", "found", "one"]
abbrev a_sides : List Str := ["bases"]
abbrev s_reach : Stmt := topS 19
abbrev n_reach : List Str := ["bases", "number", "near", "met", "row", "far", "more", "one", "other"]
abbrev a_reach : List Str := ["bases", "number"]
abbrev s_middle : Stmt := topS 20
abbrev n_middle : List Str := ["bases", "number", "best", "least", "one", "far"]
abbrev a_middle : List Str := ["bases", "number"]
abbrev s_is_number : Stmt := topS 23
abbrev n_is_number : List Str := ["thing"]
abbrev a_is_number : List Str := ["thing"]
abbrev s_P_init : Stmt := inClass (topS 24) 0
abbrev n_P_init : List Str := ["self", "bound"]
abbrev a_P_init : List Str := ["self", "bound"]
abbrev s_P_need : Stmt := inClass (topS 24) 1
abbrev n_P_need : List Str := ["self", "number"]
abbrev a_P_need : List Str := ["self", "number"]
abbrev s_P_read : Stmt := inClass (topS 24) 2
abbrev n_P_read : List Str := ["self", "number", "chain", "text", "one"]
abbrev a_P_read : List Str := ["self", "number"]
abbrev s_P_base : Stmt := inClass (topS 24) 3
abbrev n_P_base : List Str := ["self", "number"]
abbrev a_P_base : List Str := ["self", "number"]
abbrev s_P_chain : Stmt := inClass (topS 24) 4
abbrev n_P_chain : List Str := ["self", "number"]
abbrev a_P_chain : List Str := ["self", "number"]
abbrev s_P_numbers : Stmt := inClass (topS 24) 5
abbrev n_P_numbers : List Str := ["self"]
abbrev a_P_numbers : List Str := ["self"]
abbrev s_P_bases : Stmt := inClass (topS 24) 6
abbrev n_P_bases : List Str := ["self"]
abbrev a_P_bases : List Str := ["self"]
abbrev s_P_rows : Stmt := inClass (topS 24) 7
abbrev n_P_rows : List Str := ["self", "one"]
abbrev a_P_rows : List Str := ["self"]
abbrev s_P_weight : Stmt := inClass (topS 24) 8
abbrev n_P_weight : List Str := ["self", "many", "one"]
abbrev a_P_weight : List Str := ["self"]
abbrev s_P_lay : Stmt := inClass (topS 24) 9
abbrev n_P_lay : List Str := ["self", "number", "other", "text"]
abbrev a_P_lay : List Str := ["self", "number", "other", "text"]
abbrev s_P_turn_to : Stmt := inClass (topS 24) 10
abbrev n_P_turn_to : List Str := ["self", "number", "text", "chain", "k"]
abbrev a_P_turn_to : List Str := ["self", "number"]
abbrev s_P_store : Stmt := inClass (topS 24) 11
abbrev n_P_store : List Str := ["self", "text", "beside", "number", "best"]
abbrev a_P_store : List Str := ["self", "text", "beside"]
abbrev s_P_root : Stmt := inClass (topS 24) 12
abbrev n_P_root : List Str := ["self", "number"]
abbrev a_P_root : List Str := ["self", "number"]
abbrev s_within : Stmt := topS 26
abbrev n_within : List Str := ["bases", "number", "bound", "k"]
abbrev a_within : List Str := ["bases", "number", "bound"]
abbrev s_opened : Stmt := topS 27
abbrev n_opened : List Str := ["rows", "bound", "pack", "number", "other", "kept"]
abbrev a_opened : List Str := ["rows", "bound"]
abbrev s_l_cell_at : Stmt := topS 29
abbrev n_l_cell_at : List Str := ["_law_script", "_law_k"]
abbrev a_l_cell_at : List Str := ["_law_script", "_law_k"]
abbrev s_l_whole : Stmt := topS 30
abbrev n_l_whole : List Str := ["_law_found"]
abbrev a_l_whole : List Str := ["_law_found"]
abbrev s_l_sign_by : Stmt := topS 31
abbrev n_l_sign_by : List Str := ["_law_cell", "_law_some"]
abbrev a_l_sign_by : List Str := ["_law_cell"]
abbrev s_l_text_by : Stmt := topS 32
abbrev n_l_text_by : List Str := ["_law_cell", "_law_size_here", "_law_k"]
abbrev a_l_text_by : List Str := ["_law_cell", "_law_size_here"]
abbrev s_l_next_text : Stmt := topS 33
abbrev n_l_next_text : List Str := ["_law_old", "_law_cell", "_law_way", "_law_at", "_law_left"]
abbrev a_l_next_text : List Str := ["_law_old", "_law_cell"]
abbrev s_l_change_of : Stmt := topS 34
abbrev n_l_change_of : List Str := ["_law_old", "_law_new", "_law_at", "_law_end"]
abbrev a_l_change_of : List Str := ["_law_old", "_law_new"]
abbrev s_l_wide_change : Stmt := topS 35
abbrev n_l_wide_change : List Str := ["_law_old", "_law_new", "_law_way", "_law_change", "_law_ahead"]
abbrev a_l_wide_change : List Str := ["_law_old", "_law_new", "_law_way"]
abbrev s_l_names : Stmt := topS 36
abbrev n_l_names : List Str := ["_law_cells_here", "_law_names_here", "_law_number", "_law_cell"]
abbrev a_l_names : List Str := ["_law_cells_here"]
abbrev s_l_size : Stmt := topS 37
abbrev n_l_size : List Str := ["_law_cell"]
abbrev a_l_size : List Str := ["_law_cell"]
abbrev s_l_made : Stmt := topS 38
abbrev n_l_made : List Str := ["_law_cells_here", "_law_shift", "_law_many", "_law_names_here", "_law_order", "_law_k", "_law_kept", "_law_texts", "_law_one", "_law_two", "_law_base"]
abbrev a_l_made : List Str := ["_law_cells_here", "_law_shift"]
abbrev s_l_rows_of : Stmt := topS 39
abbrev n_l_rows_of : List Str := ["_law_kept", "_law_one"]
abbrev a_l_rows_of : List Str := ["_law_kept"]
abbrev s_l_chain : Stmt := topS 40
abbrev n_l_chain : List Str := ["_law_kept", "_law_number", "_law_chain_here"]
abbrev a_l_chain : List Str := ["_law_kept", "_law_number"]
abbrev s_l_longest : Stmt := topS 41
abbrev n_l_longest : List Str := ["_law_kept", "_law_one"]
abbrev a_l_longest : List Str := ["_law_kept"]
abbrev s_l_kinds : Stmt := topS 42
abbrev n_l_kinds : List Str := ["_law_row"]
abbrev a_l_kinds : List Str := ["_law_row"]
abbrev s_l_rows_are : Stmt := topS 43
abbrev n_l_rows_are : List Str := ["_law_found", "_law_kept", "_law_row"]
abbrev a_l_rows_are : List Str := ["_law_found", "_law_kept"]
abbrev s_l_cells : Stmt := topS 44
abbrev n_l_cells : List Str := ["_law_script", "_law_start", "_law_many", "_law_k"]
abbrev a_l_cells : List Str := ["_law_script", "_law_start", "_law_many"]
abbrev s_l_far : Stmt := topS 45
abbrev n_l_far : List Str := ["_law_kept", "_law_number", "_law_mine", "_law_far_here", "_law_one", "_law_chain_here", "_law_k"]
abbrev a_l_far : List Str := ["_law_kept", "_law_number"]
abbrev s_l_turned : Stmt := topS 46
abbrev n_l_turned : List Str := ["_law_kept", "_law_number", "_law_signs", "_law_chain_here", "_law_found", "_law_k", "_law_change"]
abbrev a_l_turned : List Str := ["_law_kept", "_law_number", "_law_signs"]
abbrev s_l_seen : Stmt := topS 47
abbrev n_l_seen : List Str := ["_law_pack", "_law_kept", "_law_first", "_law_names_here", "_law_due", "_law_one", "_law_last"]
abbrev a_l_seen : List Str := ["_law_pack", "_law_kept", "_law_first"]
abbrev s_l_held_well : Stmt := topS 48
abbrev n_l_held_well : List Str := ["_law_held", "_law_pair"]
abbrev a_l_held_well : List Str := ["_law_held"]
abbrev s_l_asked : Stmt := topS 49
abbrev n_l_asked : List Str := ["_law_pack", "_law_kept", "_law_texts", "_law_cell", "_law_held", "_law_names_here", "_law_one", "_law_told", "_law_k"]
abbrev a_l_asked : List Str := ["_law_pack", "_law_kept", "_law_texts", "_law_cell", "_law_held"]
abbrev s_l_one_more : Stmt := topS 50
abbrev n_l_one_more : List Str := ["_law_pack", "_law_kept", "_law_texts", "_law_bound", "_law_number", "_law_cell", "_law_names_here", "_law_beside"]
abbrev a_l_one_more : List Str := ["_law_pack", "_law_kept", "_law_texts", "_law_bound", "_law_number", "_law_cell"]
abbrev s_l_root_told : Stmt := topS 51
abbrev n_l_root_told : List Str := ["_law_pack", "_law_number", "_law_by_any", "e"]
abbrev a_l_root_told : List Str := ["_law_pack", "_law_number", "_law_by_any"]
abbrev s_l_law : Stmt := topS 52
abbrev n_l_law : List Str := ["_law_script", "_law_many", "_law_made_here", "_law_kept", "_law_bound", "_law_rows", "_law_pack", "_law_other", "_law_held", "_law_texts", "_law_last", "_law_k", "_law_cell", "_law_number", "_law_due", "_law_one"]
abbrev a_l_law : List Str := ["_law_script"]
def dd_done : He.DefD := ⟨("done", none), "done", "done", defArgs s_done, defBody s_done, defScope s_done, [], []⟩
def dd_turned : He.DefD := ⟨("turned", none), "turned", "turned", defArgs s_turned, defBody s_turned, defScope s_turned, [], []⟩
def dd_alike_ahead : He.DefD := ⟨("alike_ahead", none), "alike_ahead", "alike_ahead", defArgs s_alike_ahead, defBody s_alike_ahead, defScope s_alike_ahead, [], []⟩
def dd_alike_behind : He.DefD := ⟨("alike_behind", none), "alike_behind", "alike_behind", defArgs s_alike_behind, defBody s_alike_behind, defScope s_alike_behind, [], []⟩
def dd_change_of : He.DefD := ⟨("change_of", none), "change_of", "change_of", defArgs s_change_of, defBody s_change_of, defScope s_change_of, [], []⟩
def dd_chain_of : He.DefD := ⟨("chain_of", none), "chain_of", "chain_of", defArgs s_chain_of, defBody s_chain_of, defScope s_chain_of, [], []⟩
def dd_tree_of : He.DefD := ⟨("tree_of", none), "tree_of", "tree_of", defArgs s_tree_of, defBody s_tree_of, defScope s_tree_of, [], []⟩
def dd_sides : He.DefD := ⟨("sides", none), "sides", "sides", defArgs s_sides, defBody s_sides, defScope s_sides, [], []⟩
def dd_reach : He.DefD := ⟨("reach", none), "reach", "reach", defArgs s_reach, defBody s_reach, defScope s_reach, [], []⟩
def dd_middle : He.DefD := ⟨("middle", none), "middle", "middle", defArgs s_middle, defBody s_middle, defScope s_middle, [], []⟩
def dd_is_number : He.DefD := ⟨("is_number", none), "is_number", "is_number", defArgs s_is_number, defBody s_is_number, defScope s_is_number, [], []⟩
def dd_P_init : He.DefD := ⟨("Pack", some "__init__"), "__init__", "Pack.__init__", defArgs s_P_init, defBody s_P_init, defScope s_P_init, [], []⟩
def dd_P_need : He.DefD := ⟨("Pack", some "need"), "need", "Pack.need", defArgs s_P_need, defBody s_P_need, defScope s_P_need, [], []⟩
def dd_P_read : He.DefD := ⟨("Pack", some "read"), "read", "Pack.read", defArgs s_P_read, defBody s_P_read, defScope s_P_read, [], []⟩
def dd_P_base : He.DefD := ⟨("Pack", some "base"), "base", "Pack.base", defArgs s_P_base, defBody s_P_base, defScope s_P_base, [], []⟩
def dd_P_chain : He.DefD := ⟨("Pack", some "chain"), "chain", "Pack.chain", defArgs s_P_chain, defBody s_P_chain, defScope s_P_chain, [], []⟩
def dd_P_numbers : He.DefD := ⟨("Pack", some "numbers"), "numbers", "Pack.numbers", defArgs s_P_numbers, defBody s_P_numbers, defScope s_P_numbers, [], []⟩
def dd_P_bases : He.DefD := ⟨("Pack", some "bases"), "bases", "Pack.bases", defArgs s_P_bases, defBody s_P_bases, defScope s_P_bases, [], []⟩
def dd_P_rows : He.DefD := ⟨("Pack", some "rows"), "rows", "Pack.rows", defArgs s_P_rows, defBody s_P_rows, defScope s_P_rows, [], []⟩
def dd_P_weight : He.DefD := ⟨("Pack", some "weight"), "weight", "Pack.weight", defArgs s_P_weight, defBody s_P_weight, defScope s_P_weight, [], []⟩
def dd_P_lay : He.DefD := ⟨("Pack", some "lay"), "lay", "Pack.lay", defArgs s_P_lay, defBody s_P_lay, defScope s_P_lay, [], []⟩
def dd_P_turn_to : He.DefD := ⟨("Pack", some "turn_to"), "turn_to", "Pack.turn_to", defArgs s_P_turn_to, defBody s_P_turn_to, defScope s_P_turn_to, [], []⟩
def dd_P_store : He.DefD := ⟨("Pack", some "store"), "store", "Pack.store", defArgs s_P_store, defBody s_P_store, defScope s_P_store, [], []⟩
def dd_P_root : He.DefD := ⟨("Pack", some "root"), "root", "Pack.root", defArgs s_P_root, defBody s_P_root, defScope s_P_root, [], []⟩
def dd_within : He.DefD := ⟨("within", none), "within", "within", defArgs s_within, defBody s_within, defScope s_within, [], []⟩
def dd_opened : He.DefD := ⟨("opened", none), "opened", "opened", defArgs s_opened, defBody s_opened, defScope s_opened, [], []⟩
def dd_l_cell_at : He.DefD := ⟨("_law_cell_at", none), "_law_cell_at", "_law_cell_at", defArgs s_l_cell_at, defBody s_l_cell_at, defScope s_l_cell_at, [], []⟩
def dd_l_whole : He.DefD := ⟨("_law_whole", none), "_law_whole", "_law_whole", defArgs s_l_whole, defBody s_l_whole, defScope s_l_whole, [], []⟩
def dd_l_sign_by : He.DefD := ⟨("_law_sign_by", none), "_law_sign_by", "_law_sign_by", defArgs s_l_sign_by, defBody s_l_sign_by, defScope s_l_sign_by, [], []⟩
def dd_l_text_by : He.DefD := ⟨("_law_text_by", none), "_law_text_by", "_law_text_by", defArgs s_l_text_by, defBody s_l_text_by, defScope s_l_text_by, [], []⟩
def dd_l_next_text : He.DefD := ⟨("_law_next_text", none), "_law_next_text", "_law_next_text", defArgs s_l_next_text, defBody s_l_next_text, defScope s_l_next_text, [], []⟩
def dd_l_change_of : He.DefD := ⟨("_law_change_of", none), "_law_change_of", "_law_change_of", defArgs s_l_change_of, defBody s_l_change_of, defScope s_l_change_of, [], []⟩
def dd_l_wide_change : He.DefD := ⟨("_law_wide_change", none), "_law_wide_change", "_law_wide_change", defArgs s_l_wide_change, defBody s_l_wide_change, defScope s_l_wide_change, [], []⟩
def dd_l_names : He.DefD := ⟨("_law_names", none), "_law_names", "_law_names", defArgs s_l_names, defBody s_l_names, defScope s_l_names, [], []⟩
def dd_l_size : He.DefD := ⟨("_law_size", none), "_law_size", "_law_size", defArgs s_l_size, defBody s_l_size, defScope s_l_size, [], []⟩
def dd_l_made : He.DefD := ⟨("_law_made", none), "_law_made", "_law_made", defArgs s_l_made, defBody s_l_made, defScope s_l_made, [], []⟩
def dd_l_rows_of : He.DefD := ⟨("_law_rows_of", none), "_law_rows_of", "_law_rows_of", defArgs s_l_rows_of, defBody s_l_rows_of, defScope s_l_rows_of, [], []⟩
def dd_l_chain : He.DefD := ⟨("_law_chain", none), "_law_chain", "_law_chain", defArgs s_l_chain, defBody s_l_chain, defScope s_l_chain, [], []⟩
def dd_l_longest : He.DefD := ⟨("_law_longest", none), "_law_longest", "_law_longest", defArgs s_l_longest, defBody s_l_longest, defScope s_l_longest, [], []⟩
def dd_l_kinds : He.DefD := ⟨("_law_kinds", none), "_law_kinds", "_law_kinds", defArgs s_l_kinds, defBody s_l_kinds, defScope s_l_kinds, [], []⟩
def dd_l_rows_are : He.DefD := ⟨("_law_rows_are", none), "_law_rows_are", "_law_rows_are", defArgs s_l_rows_are, defBody s_l_rows_are, defScope s_l_rows_are, [], []⟩
def dd_l_cells : He.DefD := ⟨("_law_cells", none), "_law_cells", "_law_cells", defArgs s_l_cells, defBody s_l_cells, defScope s_l_cells, [], []⟩
def dd_l_far : He.DefD := ⟨("_law_far", none), "_law_far", "_law_far", defArgs s_l_far, defBody s_l_far, defScope s_l_far, [], []⟩
def dd_l_turned : He.DefD := ⟨("_law_turned", none), "_law_turned", "_law_turned", defArgs s_l_turned, defBody s_l_turned, defScope s_l_turned, [], []⟩
def dd_l_seen : He.DefD := ⟨("_law_seen", none), "_law_seen", "_law_seen", defArgs s_l_seen, defBody s_l_seen, defScope s_l_seen, [], []⟩
def dd_l_held_well : He.DefD := ⟨("_law_held_well", none), "_law_held_well", "_law_held_well", defArgs s_l_held_well, defBody s_l_held_well, defScope s_l_held_well, [], []⟩
def dd_l_asked : He.DefD := ⟨("_law_asked", none), "_law_asked", "_law_asked", defArgs s_l_asked, defBody s_l_asked, defScope s_l_asked, [], []⟩
def dd_l_one_more : He.DefD := ⟨("_law_one_more", none), "_law_one_more", "_law_one_more", defArgs s_l_one_more, defBody s_l_one_more, defScope s_l_one_more, [], []⟩
def dd_l_root_told : He.DefD := ⟨("_law_root_told", none), "_law_root_told", "_law_root_told", defArgs s_l_root_told, defBody s_l_root_told, defScope s_l_root_told, [], []⟩
def dd_l_law : He.DefD := ⟨("law", none), "law", "law", defArgs s_l_law, defBody s_l_law, defScope s_l_law, [], []⟩
def fn : List He.DefD := [dd_done, dd_turned, dd_alike_ahead, dd_alike_behind, dd_change_of, dd_chain_of, dd_tree_of, dd_sides, dd_reach, dd_middle, dd_is_number, dd_P_init, dd_P_need, dd_P_read, dd_P_base, dd_P_chain, dd_P_numbers, dd_P_bases, dd_P_rows, dd_P_weight, dd_P_lay, dd_P_turn_to, dd_P_store, dd_P_root, dd_within, dd_opened, dd_l_cell_at, dd_l_whole, dd_l_sign_by, dd_l_text_by, dd_l_next_text, dd_l_change_of, dd_l_wide_change, dd_l_names, dd_l_size, dd_l_made, dd_l_rows_of, dd_l_chain, dd_l_longest, dd_l_kinds, dd_l_rows_are, dd_l_cells, dd_l_far, dd_l_turned, dd_l_seen, dd_l_held_well, dd_l_asked, dd_l_one_more, dd_l_root_told, dd_l_law]
def fa : List He.Fa := [.int "GREATEST" 1000, .free "ValueError", .free "bool", .free "dict", .free "int", .free "isinstance", .free "len", .free "list", .free "max", .free "min", .free "range", .free "reversed", .free "sorted", .free "str", .free "tuple", .glo "BadBound", .exc "BadBound", .glo "BadRows", .exc "BadRows", .glo "NoFit", .exc "NoFit", .glo "NoVersion", .exc "NoVersion", .glo "PackError", .exc "PackError", .glo "TooFar", .exc "TooFar", .glo "Pack", .cls "Pack", .mkr "Pack", .glo "done", .glo "turned", .glo "alike_ahead", .glo "alike_behind", .glo "change_of", .glo "chain_of", .glo "tree_of", .glo "sides", .glo "reach", .glo "middle", .glo "is_number", .meth "Pack" "need", .meth "Pack" "read", .meth "Pack" "base", .meth "Pack" "chain", .meth "Pack" "numbers", .meth "Pack" "bases", .meth "Pack" "rows", .meth "Pack" "weight", .meth "Pack" "lay", .meth "Pack" "turn_to", .meth "Pack" "store", .meth "Pack" "root", .glo "within", .glo "opened", .glo "_law_cell_at", .glo "_law_whole", .glo "_law_sign_by", .glo "_law_text_by", .glo "_law_next_text", .glo "_law_change_of", .glo "_law_wide_change", .glo "_law_names", .glo "_law_size", .glo "_law_made", .glo "_law_rows_of", .glo "_law_chain", .glo "_law_longest", .glo "_law_kinds", .glo "_law_rows_are", .glo "_law_cells", .glo "_law_far", .glo "_law_turned", .glo "_law_seen", .glo "_law_held_well", .glo "_law_asked", .glo "_law_one_more", .glo "_law_root_told", .glo "law", .noat "Pack" "bound", .noat "Pack" "leans", .noat "Pack" "stock", .noat "Pack" "coming"]
def ex (K : PySem.W.Frag) : Bool := okB ⟨K, He.ga K "Pack", He.ga K "BadBound", He.ga K "BadRows", He.ga K "InRing", He.ga K "NoFit", He.ga K "NoVersion", He.ga K "TooFar", He.ga K "PackError"⟩
def loose0 : List Str := ["PackError", "BadBound", "BadRows", "InRing", "NoFit", "NoVersion", "TooFar", "Pack", "_wall", "done", "turned", "alike_ahead", "alike_behind", "change_of", "chain_of", "tree_of", "sides", "reach", "middle", "is_number", "within", "opened", "_law_cell_at", "_law_whole", "_law_sign_by", "_law_text_by", "_law_next_text", "_law_change_of", "_law_wide_change", "_law_names"]
def loose1 : List Str := ["_law_size", "_law_made", "_law_rows_of", "_law_chain", "_law_longest", "_law_kinds", "_law_rows_are", "_law_cells", "_law_far", "_law_turned", "_law_seen", "_law_held_well", "_law_asked", "_law_one_more", "_law_root_told", "GREATEST"]
def loose : List Str := loose0 ++ loose1
abbrev R : PySem.W.OpenRow := PySem.W.OpenLaw.row PySem.Challenge.rw_packdelta_k10_rooted
abbrev hk : PySem.W.Hook := hookP 5 fa fn ex
def ob (s : PySem.W.SharedT) : He.AlD × Bool := obsP 5 fa fn ex (HandSHeadRun.getT s)
theorem ob_eq (s : PySem.W.SharedT) : ob s = hk.obs s.abs := obsP_eq (HandSHeadRun.getT_eq s)
theorem run (w : World) : HandSHeadRun.RunEq R (PySem.W.view R.prog [52]) hk ob 4000 loose w := by
  intro os
  open PyProof.Rows in kernel_rfl
end
end Pk
/-! EARLY -/
open PySem PySem.Spec L2 Pk
open C8 (tCut pss_cut)

local macro_rules | `(tactic| walk_at "hp") => `(tactic| (first
  | assumption
  | (exact SqL.of (by assumption)) | (exact SqT.of (by assumption)) | (exact Rd.of (by assumption))
  | (exact sm_of (by assumption) (by assumption))
  | ((with_reducible apply sm_of); assumption; walk_at "hp")
  | ((with_reducible apply Same.seq); assumption; walk_at "hp")
  | ((with_reducible apply sm_tup); assumption; walk_at "hp")
  | ((with_reducible apply sm_rd); assumption; walk_at "hp"))) 
local macro_rules | `(tactic| walk_at "hq") => `(tactic| (first | walk_at "hp" | (solve_by_elim (maxDepth := 8) [Same.seq, sm_of, sm_tup, sm_rd, SqL.of, SqT.of, Rd.of])))
local macro_rules | `(tactic| walk_at "rv") => `(tactic| (with_reducible (first
  | refine r_v0 ?_ | refine r_v1 ?_ | refine r_v2 ?_ | refine r_v3 ?_ | refine r_v4 ?_ | refine r_v5 ?_ | refine r_v6 ?_ | refine r_v7 ?_ | refine r_v8 ?_ | refine r_v9 ?_ | refine r_v10 ?_ | refine r_v11 ?_ | refine r_v12 ?_ | refine r_v13 ?_ | refine r_v14 ?_ | refine r_v15 ?_ | refine r_v16 ?_ | refine r_v17 ?_ | refine r_n0 ?_ | refine r_n1 ?_ | refine r_n2 ?_ | refine r_n3 ?_ | refine r_n4 ?_ | refine r_n5 ?_ | refine r_n6 ?_ | refine r_n7 ?_ | refine r_n8 ?_ | refine r_n9 ?_ | refine r_n10 ?_ | refine r_n11 ?_ | refine r_n12 ?_ | refine r_n13 ?_ | refine r_n14 ?_ | refine r_n15 ?_ | refine r_n16 ?_ | refine r_n17 ?_)))
local macro_rules | `(tactic| walk_at "x1") => `(tactic| fail)
local macro_rules | `(tactic| walk_at "r1") => `(tactic| (first
  | (with_reducible (first | refine r_seq ?_ | refine r_asg ?_ | refine r_ret ?_ | refine r_ifS ?_ | refine r_next ?_ | refine r_drop ?_ | refine r_brk ?_ | refine r_raise ?_ | refine r_test ?_ | refine r_B ?_ | refine r_and ?_ | refine r_or ?_ | refine r_not ?_ | refine r_isN ?_ | refine r_notN ?_ | refine r_c ?_ | refine r_op ?_ | refine r_un ?_ | refine r_cons ?_ | refine r_nil ?_ | refine r_call ?_ | refine r_cb ?_ | refine r_andV ?_ | refine r_orV ?_ | refine r_notV ?_ | refine r_ifE ?_ | refine r_sl ?_ | refine r_noPart ?_ | refine r_part ?_ | refine r_tup ?_ | refine r_lst ?_ | refine r_bm ?_ | refine r_bm0 ?_ | refine r_dget ?_ | refine r_din ?_ | refine r_dnotin ?_ | refine r_dput ?_ | refine r_fld ?_ | refine r_meth ?_ | refine r_yes ?_ | refine r_lc ?_ | refine r_for ?_ | refine r_rng1 ?_ | refine r_rng2 ?_ | refine r_iList ?_ | refine r_iKeys ?_ | refine r_dnew ?_ | refine r_try ?_ | refine r_callS ?_ | refine r_methW ?_ | refine r_sfld ?_ | refine r_iRev ?_ | refine r_rng3 ?_ | refine r_iZip ?_ | refine r_make ?_ | refine r_gCons ?_ | refine r_gNil ?_ | refine r_revS ?_))
  | walk_at "rv"
  | (with_reducible (first | refine r_add ?_ | refine r_sub ?_ | refine r_neg ?_ | refine r_lt ?_ | refine r_le ?_ | refine r_gt ?_ | refine r_ge ?_ | refine r_eqI ?_ | refine r_eqS ?_ | refine r_neI ?_ | refine r_neS ?_ | refine r_max2 ?_ | refine r_min2 ?_ | refine r_blP ?_ | refine r_int ?_ | refine r_tyS ?_))
  | ((with_reducible (first | refine r_div ?_ ?_ | refine r_mod ?_ ?_ | refine r_pow ?_ ?_ | refine r_mulL ?_ ?_ | refine r_mulR ?_ ?_)); first | decide | omega)
  | ((with_reducible (first | refine r_slS ?_ ?_ | refine r_lenS ?_ ?_ | refine r_addS ?_ ?_)); (first | (exact sz (by omega)) | (exact sz (by simp only [List.length_append]; omega))))
  | ((with_reducible (first | refine r_mkT ?_ ?_ | refine r_mkL ?_ ?_)); exact sz (by simp))
  | (with_reducible (first | refine iteT ?_ | refine iteF ?_ | refine r_nT ?_ | refine r_nF ?_))
  | ((with_reducible refine r_rng1E ?_ ?_); omega)
  | ((with_reducible refine r_rng2E ?_ ?_); omega)
  | ((with_reducible apply r_iListE); (walk_at "hp"))
  | ((with_reducible apply r_tyL); (walk_at "hp"))
  | ((with_reducible apply r_ixT); (walk_at "hp"); exact rfl)
  | ((with_reducible apply r_ixL); (walk_at "hp"); exact rfl)
  | (with_reducible (first | refine r_is_int_int ?_ | refine r_is_int_bool ?_ | refine r_is_int_str ?_ | refine r_is_int_tuple ?_ | refine r_is_int_list ?_ | refine r_is_int_dict ?_ | refine r_is_str_int ?_ | refine r_is_str_bool ?_ | refine r_is_str_str ?_ | refine r_is_str_tuple ?_ | refine r_is_str_list ?_ | refine r_is_str_dict ?_ | refine r_is_bl_int ?_ | refine r_is_bl_bool ?_ | refine r_is_bl_str ?_ | refine r_is_bl_tuple ?_ | refine r_is_bl_list ?_ | refine r_is_bl_dict ?_ | refine r_is_non_int ?_ | refine r_is_non_bool ?_ | refine r_is_non_str ?_ | refine r_is_non_tuple ?_ | refine r_is_non_list ?_ | refine r_is_non_dict ?_))
  | ((with_reducible apply r_is_lst_int); (walk_at "hp"))
  | ((with_reducible apply r_is_lst_str); (walk_at "hp"))
  | ((with_reducible apply r_is_lst_tuple); (walk_at "hp"))
  | ((with_reducible apply r_is_lst_list); (walk_at "hp"))
  | ((with_reducible apply r_is_lst_dict); (walk_at "hp"))
  | ((with_reducible apply r_is_tup_int); (walk_at "hp"))
  | ((with_reducible apply r_is_tup_str); (walk_at "hp"))
  | ((with_reducible apply r_is_tup_tuple); (walk_at "hp"))
  | ((with_reducible apply r_is_tup_list); (walk_at "hp"))
  | ((with_reducible apply r_is_tup_dict); (walk_at "hp"))
  | ((with_reducible apply r_is_dK_int); (walk_at "hp"))
  | ((with_reducible apply r_is_dK_str); (walk_at "hp"))
  | ((with_reducible apply r_is_dK_tuple); (walk_at "hp"))
  | ((with_reducible apply r_is_dK_list); (walk_at "hp"))
  | ((with_reducible apply r_is_dK_dict); (walk_at "hp"))
  | ((with_reducible apply r_lenL); (walk_at "hp"))
  | ((with_reducible apply r_lenT); (walk_at "hp"))
  | ((with_reducible apply r_lenD); (walk_at "hp"))
  | ((with_reducible apply r_fldB); assumption; (walk_at "hp"))
  | ((with_reducible apply r_fldL); assumption; (walk_at "hp"))
  | ((with_reducible apply r_fldK); assumption; (walk_at "hp"))
  | ((with_reducible apply r_fldC); assumption; (walk_at "hp"))
  | ((with_reducible apply r_methE); (walk_at "hp"); (decide +kernel))
  | walk_at "x1"
  ))
local macro_rules | `(tactic| walk_at "rd") => `(tactic| (repeat' (walk_at "r1")))
namespace Pk
def sp_done (A : Ad) : Sp := fun vs H Q E => ∃ (z gone come : List Nat) (at_ : Int) (t : Addr), vs = [.str (S z), .ref t] ∧ H t = some (.tup [.int at_, .str (S gone), .str (S come)]) ∧
  z.length ≤ 1000000 ∧ gone.length ≤ 1000000 ∧ come.length ≤ 1000000 ∧ (Fits z at_ gone → Q (.str (S (doneL z at_ gone come))) H) ∧ (¬ Fits z at_ gone → E (.ref A.cNoFit) none H)
def t_done (A : Ad) (E : XK) : TS := tSeq (tAsg (tOp (rIx A.K) (tVar 1) (tC (.int 0))) (gName 2)) (tSeq (tAsg (tOp rAdd3 (tVar 2) (tCB (rLenG A.K) (tCons (tOp (rIx A.K) (tVar 1) (tC (.int 1))) (tNil)))) (gName 3)) (tSeq (tIfS (tOr (tTest (tOp (rLt) (tVar 2) (tC (.int 0)))) (tOr (tTest (tOp (rGt) (tVar 3) (tCB (rLenG A.K) (tCons (tVar 0) (tNil))))) (tTest (tOp (rNeG A.K) (tSl (rSl2 A.K) (tVar 0) (tPart (tVar 2)) (tPart (tVar 3))) (tOp (rIx A.K) (tVar 1) (tC (.int 1))))))) (tRaise A.cNoFit E) (tNext)) (tRet (tOp rAdd3 (tOp rAdd3 (tSl (rSl2 A.K) (tVar 0) (tNoPart) (tPart (tVar 2))) (tOp (rIx A.K) (tVar 1) (tC (.int 2)))) (tSl (rSl2 A.K) (tVar 0) (tPart (tVar 3)) (tNoPart))))))
theorem p_done (A : Ad) {vs : List V} {H : Hp} {Q : VK} {E : XK} (h : sp_done A vs H Q E) : t_done A E { nx := fun _ H2 => Q .non H2, rt := Q } (start ["text", "change", "at", "end"] vs) H := by
  obtain ⟨z, gone, come, at_, t, rfl, hT, l1, l2, l3, h1, h2⟩ := h
  (change t_done A E _ [_, _, none, none] _; unfold t_done; walk_at "rd")
  refine r_dec (fun c => ?_) (fun c => ?_)
  · walk_at "rd"
    exact h2 fun f => absurd f.1 (by omega)
  walk_at "rd"
  refine r_dec (fun d => ?_) (fun d => ?_)
  · walk_at "rd"
    exact h2 fun f => absurd f.2.1 (by omega)
  walk_at "rd"
  refine r_ndec (fun e => ?_) (fun e => ?_)
  · exact h2 fun f => absurd f.2.2 e
  walk_at "rd"
  have q1 := cutL_len z none (some at_)
  have q2 := cutL_len z (some (at_ + gone.length)) none
  walk_at "rd"
  exact h1 ⟨by omega, by omega, e⟩
def sp_turned (A : Ad) : Sp := fun vs H Q E => ∃ (x y z : V) (t : Addr), vs = [.ref t] ∧ H t = some (.tup [x, y, z]) ∧ Nw H (.tup [x, z, y]) Q
def t_turned (A : Ad) (E : XK) : TS := tRet (tTup (tCons (tOp (rIx A.K) (tVar 0) (tC (.int 0))) (tCons (tOp (rIx A.K) (tVar 0) (tC (.int 2))) (tCons (tOp (rIx A.K) (tVar 0) (tC (.int 1))) (tNil)))))
theorem p_turned (A : Ad) {vs : List V} {H : Hp} {Q : VK} {E : XK} (h : sp_turned A vs H Q E) : t_turned A E { nx := fun _ H2 => Q .non H2, rt := Q } (start ["change"] vs) H := by
  obtain ⟨x, y, z, t, rfl, hT, h1⟩ := h
  (change t_turned A E _ [_] _; unfold t_turned; walk_at "rd")
  exact h1
def sp_alike_ahead (A : Ad) : Sp := fun vs H Q E => ∃ a b : List Nat, vs = [.str (S a), .str (S b)] ∧ a.length ≤ 1000000 ∧ b.length ≤ 1000000 ∧ Q (.int (lcp a b)) H
def t_alike_ahead (A : Ad) (E : XK) : TS := tSeq (tAsg (tC (.int 0)) (gName 2)) (tSeq (tWhile (tAnd (tTest (tOp (rLt) (tVar 2) (tCB (rMin2) (tCons (tCB (rLenG A.K) (tCons (tVar 0) (tNil))) (tCons (tCB (rLenG A.K) (tCons (tVar 1) (tNil))) (tNil)))))) (tTest (tOp (rEqG A.K) (tOp (rIx A.K) (tVar 0) (tVar 2)) (tOp (rIx A.K) (tVar 1) (tVar 2))))) (tAsg (tOp rAdd3 (tVar 2) (tC (.int 1))) (gName 2))) (tRet (tVar 2)))
theorem p_alike_ahead (A : Ad) {vs : List V} {H : Hp} {Q : VK} {E : XK} (h : sp_alike_ahead A vs H Q E) : t_alike_ahead A E { nx := fun _ H2 => Q .non H2, rt := Q } (start ["one", "other", "many"] vs) H := by
  obtain ⟨a, b, rfl, la, lb, h1⟩ := h
  (change t_alike_ahead A E _ [_, _, none] _; unfold t_alike_ahead; walk_at "rd")
  have l1 := lcp_le1 a b
  have l2 := lcp_le2 a b
  refine r_while (fun σ H2 => ∃ k : Nat, σ = [some (.str (S a)), some (.str (S b)), some (.int k)] ∧ k ≤ lcp a b ∧ H2 = H) (fun σ H2 => match σ with
      | [_, _, some (.int k)] => (lcp a b : Int).toNat - k.toNat
      | _ => 0) ⟨0, rfl, Nat.zero_le _, rfl⟩ ?_
  rintro σ H2 ⟨k, rfl, hk, rfl⟩
  have hs := lcp_lt a b k hk
  walk_at "rd"
  refine r_dec (fun c => ?_) fun c => ?_
  · walk_at "rd"
    have ka : k < a.length := by omega
    have kb : k < b.length := by omega
    refine r_ixS (sz (by omega)) (atI_nat (List.getElem?_eq_getElem ka)) ?_
    walk_at "rd"
    refine r_ixS (sz (by omega)) (atI_nat (List.getElem?_eq_getElem kb)) ?_
    walk_at "rd"
    rw [List.getElem?_eq_getElem ka, List.getElem?_eq_getElem kb] at hs
    refine r_dec (fun d => ?_) fun d => ?_
    · have hl : k < lcp a b := hs.mpr ⟨ka, kb, by rw [(List.cons.inj d).1]⟩
      refine wh_body ?_
      walk_at "rd"
      refine ⟨⟨k + 1, rfl, hl, rfl⟩, ?_⟩
      show (lcp a b : Int).toNat - ((k : Int) + 1).toNat < (lcp a b : Int).toNat - (k : Int).toNat
      omega
    · walk_at "rd"
      have : k = lcp a b := by
        refine Nat.le_antisymm hk (Nat.le_of_not_lt fun z => d ?_)
        rw [Option.some.inj (hs.mp z).2.2]
      rw [this]
      exact h1
  · walk_at "rd"
    have : k = lcp a b := by omega
    rw [this]
    exact h1
def sp_alike_behind (A : Ad) : Sp := fun vs H Q E => ∃ (a b : List Nat) (m : Nat), vs = [.str (S a), .str (S b), .int m] ∧ a.length ≤ 1000000 ∧ b.length ≤ 1000000 ∧ m ≤ a.length ∧ m ≤ b.length ∧ Q (.int (min m (lcs a b) : Nat)) H
def t_alike_behind (A : Ad) (E : XK) : TS := tSeq (tAsg (tC (.int 0)) (gName 3)) (tSeq (tWhile (tAnd (tTest (tOp (rLt) (tVar 3) (tVar 2))) (tTest (tOp (rEqG A.K) (tOp (rIx A.K) (tVar 0) (tOp rSub (tOp rSub (tCB (rLenG A.K) (tCons (tVar 0) (tNil))) (tC (.int 1))) (tVar 3))) (tOp (rIx A.K) (tVar 1) (tOp rSub (tOp rSub (tCB (rLenG A.K) (tCons (tVar 1) (tNil))) (tC (.int 1))) (tVar 3)))))) (tAsg (tOp rAdd3 (tVar 3) (tC (.int 1))) (gName 3))) (tRet (tVar 3)))
theorem p_alike_behind (A : Ad) {vs : List V} {H : Hp} {Q : VK} {E : XK} (h : sp_alike_behind A vs H Q E) : t_alike_behind A E { nx := fun _ H2 => Q .non H2, rt := Q } (start ["one", "other", "most", "many"] vs) H := by
  obtain ⟨a, b, m, rfl, la, lb, ma, mb, h1⟩ := h
  (change t_alike_behind A E _ [_, _, _, none] _; unfold t_alike_behind; walk_at "rd")
  refine r_while (fun σ H2 => ∃ k : Nat, σ = [some (.str (S a)), some (.str (S b)), some (.int m), some (.int k)] ∧ k ≤ min m (lcs a b) ∧ H2 = H) (fun σ H2 => match σ with
      | [_, _, _, some (.int k)] => m - k.toNat
      | _ => 0) ⟨0, rfl, Nat.zero_le _, rfl⟩ ?_
  rintro σ H2 ⟨k, rfl, hk, rfl⟩
  have hs := lcp_lt a.reverse b.reverse k (by unfold lcs at hk; omega)
  rw [List.length_reverse, List.length_reverse] at hs
  walk_at "rd"
  refine r_dec (fun c => ?_) fun c => ?_
  · walk_at "rd"
    have ka : a.length - 1 - k < a.length := by omega
    have kb : b.length - 1 - k < b.length := by omega
    rw [show ((a.length : Int) - 1 - k) = ((a.length - 1 - k : Nat) : Int) by omega]
    refine r_ixS (sz (by omega)) (atI_nat (List.getElem?_eq_getElem ka)) ?_
    walk_at "rd"
    rw [show ((b.length : Int) - 1 - k) = ((b.length - 1 - k : Nat) : Int) by omega]
    refine r_ixS (sz (by omega)) (atI_nat (List.getElem?_eq_getElem kb)) ?_
    walk_at "rd"
    rw [List.getElem?_reverse (by omega), List.getElem?_reverse (by omega), List.getElem?_eq_getElem ka, List.getElem?_eq_getElem kb] at hs
    unfold lcs at *
    refine r_dec (fun d => ?_) fun d => ?_
    · have hl := hs.mpr ⟨by omega, by omega, by rw [(List.cons.inj d).1]⟩
      refine wh_body ?_
      walk_at "rd"
      refine ⟨⟨k + 1, rfl, by omega, rfl⟩, ?_⟩
      show m - ((k : Int) + 1).toNat < m - (k : Int).toNat
      omega
    · walk_at "rd"
      have : k = min m (lcp a.reverse b.reverse) := by
        refine Nat.le_antisymm hk (Nat.le_of_not_lt fun z => d ?_)
        rw [Option.some.inj (hs.mp (by omega)).2.2]
      rw [this]
      exact h1
  · walk_at "rd"
    have : k = min m (lcs a b) := by omega
    rw [this]
    exact h1
def sp_chain_of (A : Ad) : Sp := fun vs H Q E => ∃ (d : Addr) (n : Int) (lv : List (Int × Option Int)) (c : List Int), vs = [.ref d, .int n] ∧ Rd H d (.dK (bK lv)) ∧ Ch lv n c ∧ c.length ≤ 100000 ∧
  Nw H (.lst (c.map V.int)) Q
theorem u_chain_of {A : Ad} {d : Addr} {n : Int} {lv : List (Int × Option Int)} {c : List Int} {H : Hp} {Q : VK} {E : XK} (h1 : Rd H d (.dK (bK lv))) (h2 : Ch lv n c) (h3 : c.length ≤ 100000) (h : Nw H (.lst (c.map V.int)) Q) : sp_chain_of A [.ref d, .int n] H Q E := ⟨d, n, lv, c, rfl, h1, h2, h3, h⟩
def t_chain_of (A : Ad) (E : XK) : TS := tSeq (tAsg (tLst (tCons (tVar 1) (tNil))) (gName 2)) (tSeq (tWhile (tB (tNotN (tDGet (tVar 0) (tOp (rIx A.K) (tVar 2) (tUn rNeg (tC (.int 1))))))) (tDrop (tBM A.K "list" rAppend (tVar 2) (tCons (tDGet (tVar 0) (tOp (rIx A.K) (tVar 2) (tUn rNeg (tC (.int 1))))) (tNil))))) (tRet (tVar 2)))
theorem p_chain_of (A : Ad) {vs : List V} {H : Hp} {Q : VK} {E : XK} (h : sp_chain_of A vs H Q E) : t_chain_of A E { nx := fun _ H2 => Q .non H2, rt := Q } (start ["bases", "number", "chain"] vs) H := by
  obtain ⟨d, n, lv, c, rfl, hR, hc, hl, h1⟩ := h
  (change t_chain_of A E _ [_, _, none] _; unfold t_chain_of; walk_at "rd")
  intro p H1 np s1 e1
  walk_at "rd"
  refine r_while (fun σ H2 => ∃ (pre : List Int) (x : Int) (r : List Int), σ = [some (.ref d), some (.int n), some (.ref p)] ∧ Same H H2 ∧ H2 p = some (.lst (pre.map V.int ++ [.int x])) ∧ Ch lv x r ∧ c = pre ++ r)
    (fun σ H2 => match H2 p with
      | some (.lst xs) => c.length - xs.length
      | _ => 0) ⟨[], n, c, rfl, s1, e1, hc, rfl⟩ ?_
  rintro σ H2 ⟨pre, x, r, rfl, s2, e2, hx, ec⟩
  walk_at "rd"
  refine r_ixL (.of e2) (atI_last _ _) ?_
  cases hx with
  | whole ex =>
    refine r_dgetE (sm_rd s2 hR) (v := .non) (by rw [bK_val, ex]; rfl) ?_
    walk_at "rd"
    refine r_ndec (fun z => absurd rfl z) fun _ => ?_
    walk_at "rd"
    refine h1 p H2 np s2 ?_
    rw [e2, ec, List.map_append]
    rfl
  | @lean _ b r ex hb =>
    refine r_dgetE (sm_rd s2 hR) (v := .int b) (by rw [bK_val, ex]; rfl) ?_
    walk_at "rd"
    refine r_ndec (fun _ => ?_) fun z => V.noConfusion z
    refine wh_body ?_
    walk_at "rd"
    refine r_ixL (.of e2) (atI_last _ _) ?_
    refine r_dgetE (sm_rd s2 hR) (v := .int b) (by rw [bK_val, ex]; rfl) ?_
    walk_at "rd"
    have lc := congrArg List.length ec
    rw [List.length_append, List.length_cons] at lc
    refine r_append e2 (szl (by rw [List.length_append, List.length_map]; show pre.length + 1 < _; omega)) fun H3 c3 => ?_
    walk_at "rd"
    have e3 : H3 p = some (.lst ((pre ++ [x]).map V.int ++ [.int b])) := by rw [c3.1, List.map_append]; rfl
    refine ⟨⟨pre ++ [x], b, r, rfl, sm_chg s2 np c3, e3, hb, by rw [ec]; simp⟩, ?_⟩
    rw [e3, e2]
    have lb : 0 < r.length := by obtain ⟨q, rfl⟩ := hb.head; exact Nat.succ_pos _
    simp only [List.length_append, List.length_map, List.length_cons, List.length_nil]
    omega
def sp_sides (A : Ad) : Sp := fun vs H Q E => ∃ (d : Addr) (lv : List (Int × Option Int)), vs = [.ref d] ∧ H d = some (.dK (bK lv)) ∧ Forest lv ∧
  ∀ (f : Addr) (ad : Int → Addr) (nb : Int → List Int) (H' : Hp), Same H H' → H f = none → H' f = some (.dK (nK (fun n => .ref (ad n)) (keysOf lv))) →
    (∀ n ∈ keysOf lv, H (ad n) = none ∧ H' (ad n) = some (.lst ((nb n).map V.int)) ∧ (nb n).length ≤ 2000 ∧ ∀ y, y ∈ nb n ↔ Adj lv n y) → Q (.ref f) H'
def t_sides (A : Ad) (E : XK) : TS := tSeq (tAsg (tDNewK) (gName 1)) (tSeq (tLock (tFor (iKeys (tVar 0)) (gName 2) (sDPut (tVar 1) (tVar 2) (tLst (tNil))))) (tSeq (tLock (tFor (iKeys (tVar 0)) (gName 2) (tIfS (tB (tNotN (tDGet (tVar 0) (tVar 2)))) (tSeq (tDrop (tBM A.K "list" rAppend (tDGet (tVar 1) (tVar 2)) (tCons (tDGet (tVar 0) (tVar 2)) (tNil)))) (tDrop (tBM A.K "list" rAppend (tDGet (tVar 1) (tDGet (tVar 0) (tVar 2))) (tCons (tVar 2) (tNil))))) (tNext)))) (tRet (tVar 1))))
theorem p_sides (A : Ad) {vs : List V} {H : Hp} {Q : VK} {E : XK} (h : sp_sides A vs H Q E) : t_sides A E { nx := fun _ H2 => Q .non H2, rt := Q } (start ["bases", "found", "one"] vs) H := by
  obtain ⟨d, lv, rfl, hR, F, h1⟩ := h
  have F3 := F.len
  have kl : (keysOf lv).length = lv.length := List.length_map _
  (change t_sides A E _ [_, none, none] _; unfold t_sides; walk_at "rd")
  intro f H1 nf s1 e1
  walk_at "rd"
  have hd1 := s1 _ _ hR
  have dnf : f ≠ d := fun z => by rw [z, hR] at nf; cases nf
  refine r_lock hd1 fun od H2 c2 => ?_
  walk_at "rd"
  refine ⟨d, od, rfl, .inl ⟨_, c2.1, ?_⟩⟩
  have f2 : Off d H H2 := .of s1 c2
  refine for_go walk_keys (fun i σ H3 => ∃ (y : Option V) (ad : Int → Addr), σ = [some (.ref d), some (.ref f), y] ∧ H3 d = some (.frz od (.dK (bK lv))) ∧ Off d H H3 ∧ H3 f = some (.dK (nK (fun n => .ref (ad n)) ((keysOf lv).take i))) ∧
    (∀ n ∈ (keysOf lv).take i, H (ad n) = none ∧ ad n ≠ f ∧ ad n ≠ d ∧ H3 (ad n) = some (.lst [])) ∧ ∀ n ∈ (keysOf lv).take i, ∀ m ∈ (keysOf lv).take i, ad n = ad m → n = m)
    ⟨none, fun _ => 0, rfl, c2.1, f2, c2.2 _ _ dnf e1, fun n h => by simp at h, fun n h => by simp at h⟩ (fun i σ H3 hi ⟨_, _, _, h, _⟩ => h) ?_ ?_
  · rintro i x σ H3 H4 hi ⟨y, ad, rfl, hd3, f3, e3, ha, hinj⟩ ⟨rfl, k, v, hk, rfl⟩
    rw [bK_len] at hi
    rw [bK_at hi] at hk
    cases hk
    have hkl : i < (keysOf lv).length := by omega
    have hki : (keysOf lv)[i] = lv[i].1 := List.getElem_map _
    have ht := take_succ hkl
    rw [hki] at ht
    have hno : lv[i].1 ∉ (keysOf lv).take i := fun z => by
      have nd := F.nd.sublist (List.take_sublist (i + 1) (keysOf lv))
      rw [ht, List.nodup_append] at nd
      exact nd.2.2 _ z _ (by simp) rfl
    show gName 2 (.int lv[i].1) _ _ _
    walk_at "rd"
    intro p5 H5 np5 s5 e5
    walk_at "rd"
    have e35 := s5 _ _ e3
    have p5f : p5 ≠ f := fun z => by rw [z, e3] at np5; cases np5
    have p5d : p5 ≠ d := fun z => by rw [z, hd3] at np5; cases np5
    refine r_dputE e35 (szl (by rw [nK_len, List.length_take]; omega)) fun H6 c6 => ?_
    walk_at "rd"
    refine ⟨_, fu ad lv[i].1 p5, rfl, c6.2 _ _ dnf.symm (s5 _ _ hd3), (f3.sm s5).chg nf dnf c6, ?_, ?_, ?_⟩
    · rw [c6.1, ht, ← nK_put hno]
      have q : nK (fun n => .ref (fu ad lv[i].1 p5 n)) ((keysOf lv).take i) = nK (fun n => .ref (ad n)) ((keysOf lv).take i) := nK_congr fun n hn => by rw [fu_ne fun z : n = lv[i].1 => hno (by rw [← z]; exact hn)]
      rw [q, fu_eq]
    · intro n hn
      rw [ht, List.mem_append, List.mem_singleton] at hn
      by_cases z : n = lv[i].1
      · rw [z, fu_eq]
        exact ⟨f3.free np5, p5f, p5d, c6.2 _ _ p5f e5⟩
      · rw [fu_ne z]
        obtain ⟨g1, g2, g3, g4⟩ := ha n (hn.resolve_right z)
        exact ⟨g1, g2, g3, c6.2 _ _ g2 (s5 _ _ g4)⟩
    · intro n hn m hm q
      rw [ht, List.mem_append, List.mem_singleton] at hn hm
      by_cases z : n = lv[i].1
      · by_cases z2 : m = lv[i].1
        · rw [z, z2]
        · rw [z, fu_eq, fu_ne z2] at q
          have g4 := (ha m (hm.resolve_right z2)).2.2.2
          rw [← q, np5] at g4; cases g4
      · by_cases z2 : m = lv[i].1
        · rw [z2, fu_eq, fu_ne z] at q
          have g4 := (ha n (hn.resolve_right z)).2.2.2
          rw [q, np5] at g4; cases g4
        · rw [fu_ne z, fu_ne z2] at q
          exact hinj n (hn.resolve_right z) m (hm.resolve_right z2) q
  rintro σ H3 ⟨y, ad, rfl, hd3, f3, e3, ha, hinj⟩
  rw [bK_len, List.take_of_length_le (by omega)] at e3 ha hinj
  refine un hd3 fun H4 c4 => ?_
  have s4 := f3.back hR c4
  have e4 := c4.2 _ _ dnf e3
  have ha4 : ∀ n ∈ keysOf lv, H4 (ad n) = some (.lst []) := fun n hn => c4.2 _ _ (ha n hn).2.2.1 (ha n hn).2.2.2
  walk_at "rd"
  refine r_lock c4.1 fun od2 H5 c5 => ?_
  walk_at "rd"
  refine ⟨d, od2, rfl, .inl ⟨_, c5.1, ?_⟩⟩
  obtain ⟨rk, hw⟩ := F.wf
  refine for_go walk_keys (fun i σ H6 => ∃ (y : Option V) (nb : Int → List Int), σ = [some (.ref d), some (.ref f), y] ∧ H6 d = some (.frz od2 (.dK (bK lv))) ∧ Off d H H6 ∧ H6 f = some (.dK (nK (fun n => .ref (ad n)) (keysOf lv))) ∧
    ∀ n ∈ keysOf lv, H6 (ad n) = some (.lst ((nb n).map V.int)) ∧ (nb n).length ≤ 2 * i ∧ ∀ y, y ∈ nb n ↔ (n, some y) ∈ lv.take i ∨ (y, some n) ∈ lv.take i)
    ⟨_, fun _ => [], rfl, c5.1, .of s4 c5, c5.2 _ _ dnf e4, fun n hn => ⟨c5.2 _ _ (ha n hn).2.2.1 (ha4 n hn), Nat.le_refl _, fun y => by simp⟩⟩ (fun i σ H3 hi ⟨_, _, _, h, _⟩ => h) ?_ ?_
  · rintro i x σ H6 H7 hi ⟨y, nb, rfl, hd6, f6, e6, hnb⟩ ⟨rfl, k, v, hk, rfl⟩
    rw [bK_len] at hi
    rw [bK_at hi] at hk
    cases hk
    obtain ⟨kk, hlvi⟩ : ∃ kk, kk = lv[i].1 := ⟨_, rfl⟩
    obtain ⟨oo, holi⟩ : ∃ oo, oo = lv[i].2 := ⟨_, rfl⟩
    have hpair : lv[i] = (kk, oo) := by rw [hlvi, holi]
    have ht : lv.take (i + 1) = lv.take i ++ [(kk, oo)] := by rw [take_succ hi, hpair]
    have hlk : look lv kk = some oo := look_of_mem F.nd (by rw [← hpair]; exact List.getElem_mem hi)
    have hkm : kk ∈ keysOf lv := look_some.mp (by rw [hlk]; rfl)
    show gName 2 (.int lv[i].1) _ _ _
    rw [← hlvi]
    walk_at "rd"
    have gd : ∀ {P : V → Prop}, P (obV oo) → ∃ a v, V.ref d = .ref a ∧ DGet H7 a (.int kk) (some v) ∧ P v := fun {P} h => r_dgetE (.inr ⟨_, hd6⟩) (by rw [bK_val, hlk]; rfl) h
    refine gd ?_
    walk_at "rd"
    cases oo with
    | none =>
      refine r_ndec (fun z => absurd rfl z) fun _ => ?_
      walk_at "rd"
      refine ⟨_, nb, rfl, hd6, f6, e6, fun n hn => ?_⟩
      obtain ⟨g1, g2, g3⟩ := hnb n hn
      refine ⟨g1, by omega, fun y => ?_⟩
      rw [g3, ht]
      simp
    | some b =>
      refine r_ndec (fun _ => ?_) fun z => V.noConfusion z
      obtain ⟨hb1, hb2⟩ := hw kk b hlk
      have hbm : b ∈ keysOf lv := look_some.mp hb1
      have hne : kk ≠ b := fun z => by rw [z] at hb2; omega
      have hane : ad kk ≠ ad b := fun z => hne (hinj _ hkm _ hbm z)
      walk_at "rd"
      obtain ⟨g1, g2, g3⟩ := hnb kk hkm
      refine r_dgetE (.of e6) (nK_in hkm) ?_
      walk_at "rd"
      refine gd ?_
      walk_at "rd"
      refine r_append g1 (szl (by rw [List.length_map]; omega)) fun H8 c8 => ?_
      walk_at "rd"
      obtain ⟨_, kf, kd, _⟩ := ha kk hkm
      obtain ⟨_, bf, bd, _⟩ := ha b hbm
      have hd8 := c8.2 _ _ kd.symm hd6
      have e8 := c8.2 _ _ kf.symm e6
      refine r_dgetE (.inr ⟨_, hd8⟩) (v := .int b) (by rw [bK_val, hlk]; rfl) ?_
      obtain ⟨b1, b2, b3⟩ := hnb b hbm
      have b8 := c8.2 _ _ hane.symm b1
      refine r_dgetE (.of e8) (nK_in hbm) ?_
      walk_at "rd"
      refine r_append b8 (szl (by rw [List.length_map]; omega)) fun H9 c9 => ?_
      walk_at "rd"
      refine ⟨_, fu (fu nb b (nb b ++ [kk])) kk (nb kk ++ [b]), rfl, c9.2 _ _ bd.symm hd8, (f6.chg (ha kk hkm).1 kd c8).chg (ha b hbm).1 bd c9, c9.2 _ _ bf.symm e8, fun n hn => ?_⟩
      by_cases z : n = kk
      · rw [z, fu_eq]
        refine ⟨by rw [c9.2 _ _ hane c8.1, List.map_append]; rfl, by rw [List.length_append]; show _ + 1 ≤ _; omega, fun y => ?_⟩
        rw [List.mem_append, g3, ht]
        have : b ≠ kk := hne.symm
        simp [hne, hne.symm]
        constructor
        · rintro ((q | q) | q)
          · exact .inl (.inl q)
          · exact .inr q
          · exact .inl (.inr q)
        · rintro ((q | q) | q)
          · exact .inl (.inl q)
          · exact .inr q
          · exact .inl (.inr q)
      · rw [fu_ne z]
        by_cases z2 : n = b
        · rw [z2, fu_eq]
          refine ⟨by rw [c9.1, List.map_append]; rfl, by rw [List.length_append]; show _ + 1 ≤ _; omega, fun y => ?_⟩
          rw [List.mem_append, b3, ht]
          simp [hne, hne.symm]
          constructor
          · rintro ((q | q) | q)
            · exact .inl q
            · exact .inr (.inl q)
            · exact .inr (.inr q)
          · rintro (q | q | q)
            · exact .inl (.inl q)
            · exact .inl (.inr q)
            · exact .inr q
        · rw [fu_ne z2]
          obtain ⟨g1, g2, g3⟩ := hnb n hn
          have n1 : ad n ≠ ad kk := fun q => z (hinj _ hn _ hkm q)
          have n2 : ad n ≠ ad b := fun q => z2 (hinj _ hn _ hbm q)
          refine ⟨c9.2 _ _ n2 (c8.2 _ _ n1 g1), by omega, fun y => ?_⟩
          rw [g3, ht]
          have z3 : b ≠ n := fun q => z2 q.symm
          simp [z, z2, z3]
  rintro σ H6 ⟨y, nb, rfl, hd6, f6, e6, hnb⟩
  rw [bK_len] at hnb
  refine un hd6 fun H7 c7 => ?_
  walk_at "rd"
  refine h1 f ad nb H7 (f6.back hR c7) nf (c7.2 _ _ dnf e6) fun n hn => ?_
  obtain ⟨g1, g2, g3⟩ := hnb n hn
  refine ⟨(ha n hn).1, c7.2 _ _ (ha n hn).2.2.1 g1, by omega, fun y => ?_⟩
  rw [g3, List.take_of_length_le (Nat.le_refl _)]
  unfold Adj
  exact ⟨fun q => q.imp (look_of_mem F.nd) (look_of_mem F.nd), fun q => q.imp look_mem look_mem⟩
def sp_is_number (A : Ad) : Sp := fun vs H Q E => ∃ (v : V) (r : Bool), vs = [v] ∧ ((∃ i, v = .int i ∧ r = true) ∨ r = false ∧ ((∃ t, v = .bl t) ∨ v = .non ∨ (∃ z, v = .str z) ∨ (∃ a xs, v = .ref a ∧ H a = some (.lst xs)) ∨ (∃ a xs, v = .ref a ∧ H a = some (.tup xs)) ∨ ∃ a kvs, v = .ref a ∧ H a = some (.dK kvs))) ∧ Q (.bl r) H
theorem u_is_number {A : Ad} {i : Int} {H : Hp} {Q : VK} {E : XK} (h : Q (.bl true) H) : sp_is_number A [.int i] H Q E := ⟨_, _, rfl, .inl ⟨i, rfl, rfl⟩, h⟩
local macro_rules | `(tactic| walk_at "x1") => `(tactic| (with_reducible (refine u_is_number ?_)))
def t_is_number (A : Ad) (E : XK) : TS := tRet (tAndV (tCB (rIsi A.K) (tCons (tVar 0) (tCons (tC (.ty "int")) (tNil)))) (tNotV (tCB (rIsi A.K) (tCons (tVar 0) (tCons (tC (.ty "bool")) (tNil))))))
theorem p_is_number (A : Ad) {vs : List V} {H : Hp} {Q : VK} {E : XK} (h : sp_is_number A vs H Q E) : t_is_number A E { nx := fun _ H2 => Q .non H2, rt := Q } (start ["thing"] vs) H := by
  obtain ⟨v, r, rfl, hv, h1⟩ := h
  rcases hv with ⟨i, rfl, rfl⟩ | ⟨rfl, ⟨t, rfl⟩ | rfl | ⟨z, rfl⟩ | ⟨a, xs, rfl, e⟩ | ⟨a, xs, rfl, e⟩ | ⟨a, kvs, rfl, e⟩⟩
  · (change t_is_number A E _ [_] _; unfold t_is_number; walk_at "rd")
    exact h1
  · (change t_is_number A E _ [_] _; unfold t_is_number; walk_at "rd")
    exact h1
  · (change t_is_number A E _ [_] _; unfold t_is_number; walk_at "rd")
    exact h1
  · (change t_is_number A E _ [_] _; unfold t_is_number; walk_at "rd")
    exact h1
  · (change t_is_number A E _ [_] _; unfold t_is_number; walk_at "rd")
    exact h1
  · (change t_is_number A E _ [_] _; unfold t_is_number; walk_at "rd")
    exact h1
  · (change t_is_number A E _ [_] _; unfold t_is_number; walk_at "rd")
    exact h1
def sp_P_numbers (A : Ad) : Sp := fun vs H Q E => ∃ (p dl ds : Addr) (b co : Int) (ks : List Int) (o : Int → Option Int) (k : Int → Kept), vs = [.ref p] ∧ PkR A H p dl ds b co ks o k ∧ ks.Pairwise (· < ·) ∧ ks.length < 64 ∧ Nw H (.lst (ks.map V.int)) Q
theorem u_numbers {A : Ad} {p dl ds : Addr} {b co : Int} {ks : List Int} {o : Int → Option Int} {k : Int → Kept} {H : Hp} {Q : VK} {E : XK} (h : PkR A H p dl ds b co ks o k) (hs : ks.Pairwise (· < ·)) (hl : ks.length < 64) (q : Nw H (.lst (ks.map V.int)) Q) : sp_P_numbers A [.ref p] H Q E :=
  ⟨p, dl, ds, b, co, ks, o, k, rfl, h, hs, hl, q⟩
def t_P_numbers (A : Ad) (E : XK) : TS := tRet (tCB (rSortedDI) (tCons (tFld A.K (tVar 0) "leans") (tNil)))
theorem p_P_numbers (A : Ad) (pk : PkOk A) {vs : List V} {H : Hp} {Q : VK} {E : XK} (h : sp_P_numbers A vs H Q E) : t_P_numbers A E { nx := fun _ H2 => Q .non H2, rt := Q } (start ["self"] vs) H := by
  obtain ⟨p, dl, ds, b, co, ks, o, k, rfl, hP, hs, hl, h1⟩ := h
  obtain ⟨⟨dx, ip⟩, il, _⟩ := id hP
  (change t_P_numbers A E _ [_] _; unfold t_P_numbers; walk_at "rd")
  refine r_sortK il hl fun ys h2 h3 => ?_
  rw [rising_eq h2 h3 hs]
  exact h1
def sp_P_bases (A : Ad) : Sp := fun vs H Q E => ∃ (p dl ds : Addr) (b co : Int) (ks : List Int) (o : Int → Option Int) (k : Int → Kept), vs = [.ref p] ∧ PkR A H p dl ds b co ks o k ∧ Nw H (.dK (nK (fun n => obV (o n)) ks)) Q
def t_P_bases (A : Ad) (E : XK) : TS := tRet (tCB (rDictD) (tCons (tFld A.K (tVar 0) "leans") (tNil)))
theorem p_P_bases (A : Ad) (pk : PkOk A) {vs : List V} {H : Hp} {Q : VK} {E : XK} (h : sp_P_bases A vs H Q E) : t_P_bases A E { nx := fun _ H2 => Q .non H2, rt := Q } (start ["self"] vs) H := by
  obtain ⟨p, dl, ds, b, co, ks, o, k, rfl, hP, h1⟩ := h
  obtain ⟨⟨dx, ip⟩, il, _⟩ := id hP
  (change t_P_bases A E _ [_] _; unfold t_P_bases; walk_at "rd")
  exact r_dictD il h1
def sp_P_weight (A : Ad) : Sp := fun vs H Q E => ∃ (p dl ds : Addr) (b co : Int) (ks : List Int) (o : Int → Option Int) (k : Int → Kept) (tx : Int → List Nat), vs = [.ref p] ∧ PkAt A H p dl ds b co ks o k ∧ Gd ks o k tx ∧
  ∀ H', Same H H' → Q (.int (wsum ks k)) H'
def t_P_weight (A : Ad) (E : XK) : TS := tSeq (tAsg (tC (.int 0)) (gName 1)) (tSeq (tLock (tFor (iKeys (tFld A.K (tVar 0) "leans")) (gName 2) (tIfS (tB (tIsN (tDGet (tFld A.K (tVar 0) "leans") (tVar 2)))) (tAsg (tOp rAdd3 (tVar 1) (tCB (rLenG A.K) (tCons (tDGet (tFld A.K (tVar 0) "stock") (tVar 2)) (tNil)))) (gName 1)) (tAsg (tOp rAdd3 (tOp rAdd3 (tVar 1) (tCB (rLenG A.K) (tCons (tOp (rIx A.K) (tDGet (tFld A.K (tVar 0) "stock") (tVar 2)) (tC (.int 1))) (tNil)))) (tCB (rLenG A.K) (tCons (tOp (rIx A.K) (tDGet (tFld A.K (tVar 0) "stock") (tVar 2)) (tC (.int 2))) (tNil)))) (gName 1))))) (tRet (tVar 1)))
theorem p_P_weight (A : Ad) (pk : PkOk A) {vs : List V} {H : Hp} {Q : VK} {E : XK} (h : sp_P_weight A vs H Q E) : t_P_weight A E { nx := fun _ H2 => Q .non H2, rt := Q } (start ["self", "many", "one"] vs) H := by
  obtain ⟨p, dl, ds, b, co, ks, o, k, tx, rfl, hP, g, h1⟩ := h
  obtain ⟨⟨dx, ip⟩, il, ⟨sv, is, kv⟩, ne⟩ := id hP
  (change t_P_weight A E _ [_, none, none] _; unfold t_P_weight; walk_at "rd")
  refine r_lock il fun od H1 c1 => ?_
  have npd : p ≠ dl := ne_val ip il fun z => by cases z
  have ip1 := c1.2 _ _ npd ip
  have is1 := c1.2 _ _ ne.symm is
  walk_at "rd"
  refine ⟨dl, od, rfl, .inl ⟨_, c1.1, ?_⟩⟩
  refine for_go walk_keys (fun i σ H2 => ∃ y : Option V, σ = [some (.ref p), some (.int (wsum (ks.take i) k)), y] ∧ H2 = H1) ⟨none, rfl, rfl⟩ (fun i σ H2 hi ⟨_, _, e⟩ => by rw [e]; exact c1.1) ?_ ?_
  · rintro i x σ H2 H3 hi ⟨y, rfl, rfl⟩ ⟨rfl, kk, v, hk, rfl⟩
    rw [nK_len] at hi
    rw [nK_at hi] at hk
    cases hk
    have hci : ks[i] ∈ ks := List.getElem_mem hi
    have ht : wsum (ks.take (i + 1)) k = wsum (ks.take i) k + wt (k ks[i]) := by
      unfold wsum
      rw [take_succ hi, List.map_append, List.sum_append]
      rfl
    rw [ht]
    show gName 2 (.int ks[i]) _ _ _
    generalize ks[i] = one at *
    have kv1 := kv one hci
    walk_at "rd"
    refine r_dgetE (.inr ⟨_, c1.1⟩) (nK_in hci) ?_
    walk_at "rd"
    have hto := g.sz one hci
    cases ho : o one with
    | none =>
      rw [g.whole hci ho] at kv1 ⊢
      refine r_dec (fun _ => ?_) fun z => absurd rfl z
      walk_at "rd"
      refine r_dgetE (.of is1) (nK_in hci) ?_
      rw [show sv one = .str (S (tx one)) from kv1]
      have := hto.1
      walk_at "rd"
      exact ⟨_, by rw [show ((wsum (ks.take i) k : Nat) : Int) + ((tx one).length : Int) = ((wsum (ks.take i) k + wt (.tx (tx one)) : Nat) : Int) by show _ = ((wsum (ks.take i) k + (tx one).length : Nat) : Int); omega], rfl⟩
    | some bb =>
      obtain ⟨j, gg, c, hk, _, _, t1, t2⟩ := g.kept hci ho
      rw [hk] at kv1 ⊢
      obtain ⟨t, et, eh⟩ := kv1
      refine r_dec (fun z => V.noConfusion z) fun _ => ?_
      have eh1 := c1.2 _ _ (ne_val eh il fun z => by cases z) eh
      have := t1.1
      have := t2.1
      walk_at "rd"
      refine r_dgetE (.of is1) (nK_in hci) ?_
      rw [et]
      walk_at "rd"
      refine r_dgetE (.of is1) (nK_in hci) ?_
      rw [et]
      walk_at "rd"
      exact ⟨_, by rw [show ((wsum (ks.take i) k : Nat) : Int) + (gg.length : Int) + (c.length : Int) = ((wsum (ks.take i) k + wt (.ch j gg c) : Nat) : Int) by show _ = ((wsum (ks.take i) k + (gg.length + c.length) : Nat) : Int); omega], rfl⟩
  · rintro σ H2 ⟨y, rfl, rfl⟩
    refine un c1.1 fun H3 c3 => ?_
    walk_at "rd"
    rw [nK_len, List.take_of_length_le (Nat.le_refl _)]
    exact h1 H3 ((Off.of (fun _ _ z => z) c1).back il c3)
def sp_within (A : Ad) : Sp := fun vs H Q E => ∃ (d : Addr) (n b : Int) (lv : List (Int × Option Int)) (c : List Int), vs = [.ref d, .int n, .int b] ∧ Rd H d (.dK (bK lv)) ∧ Ch lv n c ∧ 0 ≤ b ∧ b ≤ 100000 ∧ Q (.bl (decide ((c.length : Int) - 1 ≤ b))) H
def t_within (A : Ad) (E : XK) : TS := tSeq (tFor (iRng1 (tCons (tOp rAdd3 (tVar 2) (tC (.int 1))) (tNil))) (gName 3) (tSeq (tIfS (tB (tIsN (tDGet (tVar 0) (tVar 1)))) (tRet (tC (.bl true))) (tNext)) (tAsg (tDGet (tVar 0) (tVar 1)) (gName 1)))) (tRet (tC (.bl false)))
theorem p_within (A : Ad) {vs : List V} {H : Hp} {Q : VK} {E : XK} (h : sp_within A vs H Q E) : t_within A E { nx := fun _ H2 => Q .non H2, rt := Q } (start ["bases", "number", "bound", "k"] vs) H := by
  obtain ⟨d, n, b, lv, c, rfl, hR, hc, b0, b1, h1⟩ := h
  (change t_within A E _ [_, _, _, none] _; unfold t_within; walk_at "rd")
  have c0 : 0 < c.length := by obtain ⟨r, rfl⟩ := hc.head; exact Nat.succ_pos _
  refine for_go (walk_rng0 (n := (b + 1).toNat)) (fun i σ H2 => ∃ (m : Int) (y : Option V), σ = [some (.ref d), some (.int m), some (.int b), y] ∧ H2 = H ∧ c[i]? = some m) ⟨n, none, rfl, rfl, by obtain ⟨r, rfl⟩ := hc.head; rfl⟩ (fun _ _ _ _ _ => trivial) ?_ ?_
  · rintro i x σ H2 H3 hi ⟨m, y, rfl, rfl, hm⟩ ⟨rfl, rfl⟩
    walk_at "rd"
    have hat := hc.at i m hm
    have gd : ∀ {P : V → Prop}, P (obV c[i + 1]?) → ∃ a v, V.ref d = .ref a ∧ DGet H3 a (.int m) (some v) ∧ P v := fun {P} h => r_dgetE hR (by rw [bK_val, hat]; rfl) h
    refine gd ?_
    walk_at "rd"
    cases e : c[i + 1]? with
    | none =>
      refine r_dec (fun _ => ?_) fun z => absurd rfl z
      walk_at "rd"
      have := List.getElem?_eq_none_iff.mp e
      rw [decide_eq_true (show (c.length : Int) - 1 ≤ b by omega)] at h1
      exact h1
    | some w =>
      refine r_dec (fun z => V.noConfusion z) fun _ => ?_
      walk_at "rd"
      refine gd ?_
      rw [e]
      walk_at "rd"
      exact ⟨w, _, rfl, rfl, rfl⟩
  · rintro σ H2 ⟨m, y, rfl, rfl, hm⟩
    walk_at "rd"
    have := (List.getElem?_eq_some_iff.mp hm).1
    rw [decide_eq_false (show ¬ (c.length : Int) - 1 ≤ b by omega)] at h1
    exact h1
def sp_l_cell_at (A : Ad) : Sp := fun vs H Q E => ∃ (a : Addr) (ns : List Int) (k : Int), vs = [.ref a, .int k] ∧ 0 ≤ k ∧ SqL A.K H a (ns.map V.int) ∧ ns.length ≤ 1000 ∧ Q (.int (cellAt ns k)) H
theorem u_cell_at {A : Ad} {a : Addr} {ns : List Int} {k : Int} {H : Hp} {Q : VK} {E : XK} (hk : 0 ≤ k) (hS : SqL A.K H a (ns.map V.int)) (hl : ns.length ≤ 63) (h : Q (.int (cellAt ns k)) H) : sp_l_cell_at A [.ref a, .int k] H Q E :=
  ⟨a, ns, k, rfl, hk, hS, by omega, h⟩
local macro_rules | `(tactic| walk_at "x1") => `(tactic| ((with_reducible apply u_cell_at); (first | decide | omega); (walk_at "hp"); assumption))
def t_l_cell_at (A : Ad) (E : XK) : TS := tSeq (tIfS (tTest (tOp (rLt) (tVar 1) (tCB (rLenG A.K) (tCons (tVar 0) (tNil))))) (tRet (tOp (rIx A.K) (tVar 0) (tVar 1))) (tNext)) (tRet (tC (.int 0)))
theorem p_l_cell_at (A : Ad) {vs : List V} {H : Hp} {Q : VK} {E : XK} (h : sp_l_cell_at A vs H Q E) : t_l_cell_at A E { nx := fun _ H2 => Q .non H2, rt := Q } (start ["_law_script", "_law_k"] vs) H := by
  obtain ⟨a, ns, k, rfl, hk, hS, hl, h1⟩ := h
  (change t_l_cell_at A E _ [_, _] _; unfold t_l_cell_at; walk_at "rd")
  rw [List.length_map]
  refine r_dec (fun c => ?_) (fun c => ?_)
  · walk_at "rd"
    obtain ⟨j, rfl⟩ : ∃ j : Nat, k = j := ⟨k.toNat, by omega⟩
    have hj : j < ns.length := by omega
    refine r_ixL hS (v := .int (cellAt ns j)) (atI_nat ?_) h1
    rw [List.getElem?_map, List.getElem?_eq_getElem hj]
    unfold cellAt
    simp [List.getD, hj]
  · walk_at "rd"
    have e : cellAt ns k = 0 := by
      unfold cellAt
      simp [List.getD, List.getElem?_eq_none (show ns.length ≤ k.toNat by omega)]
    rw [e] at h1
    exact h1
def sp_l_whole (A : Ad) : Sp := fun vs H Q E => ∃ i, vs = [.int i] ∧ Q (.bl true) H
def t_l_whole (A : Ad) (E : XK) : TS := tRet (tAndV (tCB (rIsi A.K) (tCons (tVar 0) (tCons (tC (.ty "int")) (tNil)))) (tNotV (tCB (rIsi A.K) (tCons (tVar 0) (tCons (tC (.ty "bool")) (tNil))))))
theorem p_l_whole (A : Ad) {vs : List V} {H : Hp} {Q : VK} {E : XK} (h : sp_l_whole A vs H Q E) : t_l_whole A E { nx := fun _ H2 => Q .non H2, rt := Q } (start ["_law_found"] vs) H := by
  obtain ⟨i, rfl, h1⟩ := h
  (change t_l_whole A E _ [_] _; unfold t_l_whole; walk_at "rd")
  exact h1
def sp_l_sign_by (A : Ad) : Sp := fun vs H Q E => ∃ i, vs = [.int i] ∧ ∀ x, x < 1114112 → Q (.str (S [x])) H
theorem u_sign_by {A : Ad} {i : Int} {H : Hp} {Q : VK} {E : XK} (h : ∀ x, x < 1114112 → Q (.str (S [x])) H) : sp_l_sign_by A [.int i] H Q E := ⟨i, rfl, h⟩
def t_l_sign_by (A : Ad) (E : XK) : TS := tSeq (tAsg (tC (.str " !\"#$&'()*+,-./0123456789:;<=>?@ABCDEFGHIJKLMNOPQRSTUVWXYZ[\\]^_`")) (gName 1)) (tSeq (tAsg (tOp rAdd3 (tVar 1) (tC (.str "abcdefghijklmnopqrstuvwxyz{|}~\n\t"))) (gName 1)) (tRet (tOp (rIx A.K) (tVar 1) (tOp rMod (tVar 0) (tC (.int 96))))))
theorem p_l_sign_by (A : Ad) {vs : List V} {H : Hp} {Q : VK} {E : XK} (h : sp_l_sign_by A vs H Q E) : t_l_sign_by A E { nx := fun _ H2 => Q .non H2, rt := Q } (start ["_law_cell", "_law_some"] vs) H := by
  obtain ⟨i, rfl, h1⟩ := h
  (change t_l_sign_by A E _ [_, none] _; unfold t_l_sign_by)
  obtain ⟨a, ea, la, oa⟩ := lit " !\"#$&'()*+,-./0123456789:;<=>?@ABCDEFGHIJKLMNOPQRSTUVWXYZ[\\]^_`" 64 (by decide +kernel) (by decide +kernel)
  obtain ⟨b, eb, lb, ob⟩ := lit "abcdefghijklmnopqrstuvwxyz{|}~\n\t" 32 (by decide +kernel) (by decide +kernel)
  rw [ea, eb]
  walk_at "rd"
  obtain ⟨j, e⟩ : ∃ j : Nat, i % 96 = j := ⟨(i % 96).toNat, by omega⟩
  rw [e]
  have hj : j < (a ++ b).length := by rw [List.length_append]; omega
  exact r_ixS (sz (by rw [List.length_append]; omega)) (atI_nat (List.getElem?_eq_getElem hj)) (h1 _ ((List.mem_append.mp (List.getElem_mem hj)).elim (oa _) (ob _)))
def sp_l_change_of (A : Ad) : Sp := fun vs H Q E => ∃ a b : List Nat, vs = [.str (S a), .str (S b)] ∧ a.length ≤ 1000000 ∧ b.length ≤ 1000000 ∧ Nw H (.tup [.int (atOf a b), .str (S (goneOf a b)), .str (S (comeOf a b))]) Q
theorem u_l_change_of {A : Ad} {a b : List Nat} {H : Hp} {Q : VK} {E : XK} (la : a.length ≤ 1000000) (lb : b.length ≤ 1000000) (h : Nw H (.tup [.int (atOf a b), .str (S (goneOf a b)), .str (S (comeOf a b))]) Q) : sp_l_change_of A [.str (S a), .str (S b)] H Q E := ⟨a, b, rfl, la, lb, h⟩
def t_l_change_of (A : Ad) (E : XK) : TS := tSeq (tAsg (tC (.int 0)) (gName 2)) (tSeq (tWhile (tAnd (tTest (tOp (rLt) (tVar 2) (tCB (rMin2) (tCons (tCB (rLenG A.K) (tCons (tVar 0) (tNil))) (tCons (tCB (rLenG A.K) (tCons (tVar 1) (tNil))) (tNil)))))) (tTest (tOp (rEqG A.K) (tOp (rIx A.K) (tVar 0) (tVar 2)) (tOp (rIx A.K) (tVar 1) (tVar 2))))) (tAsg (tOp rAdd3 (tVar 2) (tC (.int 1))) (gName 2))) (tSeq (tAsg (tC (.int 0)) (gName 3)) (tSeq (tWhile (tAnd (tTest (tOp (rLt) (tVar 3) (tOp rSub (tCB (rMin2) (tCons (tCB (rLenG A.K) (tCons (tVar 0) (tNil))) (tCons (tCB (rLenG A.K) (tCons (tVar 1) (tNil))) (tNil)))) (tVar 2)))) (tTest (tOp (rEqG A.K) (tOp (rIx A.K) (tVar 0) (tOp rSub (tUn rNeg (tC (.int 1))) (tVar 3))) (tOp (rIx A.K) (tVar 1) (tOp rSub (tUn rNeg (tC (.int 1))) (tVar 3)))))) (tAsg (tOp rAdd3 (tVar 3) (tC (.int 1))) (gName 3))) (tRet (tTup (tCons (tVar 2) (tCons (tSl (rSl2 A.K) (tVar 0) (tPart (tVar 2)) (tPart (tOp rSub (tCB (rLenG A.K) (tCons (tVar 0) (tNil))) (tVar 3)))) (tCons (tSl (rSl2 A.K) (tVar 1) (tPart (tVar 2)) (tPart (tOp rSub (tCB (rLenG A.K) (tCons (tVar 1) (tNil))) (tVar 3)))) (tNil)))))))))
theorem p_l_change_of (A : Ad) {vs : List V} {H : Hp} {Q : VK} {E : XK} (h : sp_l_change_of A vs H Q E) : t_l_change_of A E { nx := fun _ H2 => Q .non H2, rt := Q } (start ["_law_old", "_law_new", "_law_at", "_law_end"] vs) H := by
  obtain ⟨a, b, rfl, la, lb, h1⟩ := h
  (change t_l_change_of A E _ [_, _, none, none] _; unfold t_l_change_of; walk_at "rd")
  have l1 := lcp_le1 a b
  have l2 := lcp_le2 a b
  refine r_while (fun σ H2 => ∃ k : Nat, σ = [some (.str (S a)), some (.str (S b)), some (.int k), none] ∧ k ≤ lcp a b ∧ H2 = H) (fun σ H2 => match σ with
      | [_, _, some (.int k), _] => (lcp a b : Int).toNat - k.toNat
      | _ => 0) ⟨0, rfl, Nat.zero_le _, rfl⟩ ?_
  rintro σ H2 ⟨k, rfl, hk, rfl⟩
  have rest : k = lcp a b → ((tSeq (tAsg (tC (.int 0)) (gName 3)) (tSeq (tWhile (tAnd (tTest (tOp (rLt) (tVar 3) (tOp rSub (tCB (rMin2) (tCons (tCB (rLenG A.K) (tCons (tVar 0) (tNil))) (tCons (tCB (rLenG A.K) (tCons (tVar 1) (tNil))) (tNil)))) (tVar 2)))) (tTest (tOp (rEqG A.K) (tOp (rIx A.K) (tVar 0) (tOp rSub (tUn rNeg (tC (.int 1))) (tVar 3))) (tOp (rIx A.K) (tVar 1) (tOp rSub (tUn rNeg (tC (.int 1))) (tVar 3)))))) (tAsg (tOp rAdd3 (tVar 3) (tC (.int 1))) (gName 3))) (tRet (tTup (tCons (tVar 2) (tCons (tSl (rSl2 A.K) (tVar 0) (tPart (tVar 2)) (tPart (tOp rSub (tCB (rLenG A.K) (tCons (tVar 0) (tNil))) (tVar 3)))) (tCons (tSl (rSl2 A.K) (tVar 1) (tPart (tVar 2)) (tPart (tOp rSub (tCB (rLenG A.K) (tCons (tVar 1) (tNil))) (tVar 3)))) (tNil)))))))) : TS) ⟨fun _ H2 => Q .non H2, Q, fun _ _ => False, fun _ _ => False⟩ [some (.str (S a)), some (.str (S b)), some (.int k), none] H2 := fun ek => by
    subst ek
    walk_at "rd"
    refine r_while (fun σ H3 => ∃ j : Nat, σ = [some (.str (S a)), some (.str (S b)), some (.int (lcp a b : Nat)), some (.int j)] ∧ j ≤ min (min a.length b.length - lcp a b) (lcs a b) ∧ H3 = H2) (fun σ H2 => match σ with
        | [_, _, _, some (.int k)] => min a.length b.length - k.toNat
        | _ => 0) ⟨0, rfl, Nat.zero_le _, rfl⟩ ?_
    rintro σ H3 ⟨j, rfl, hj, rfl⟩
    have hs := lcp_lt a.reverse b.reverse j (by unfold lcs at hj; omega)
    rw [List.length_reverse, List.length_reverse] at hs
    have fin : j = min (min a.length b.length - lcp a b) (lcs a b) → ((tRet (tTup (tCons (tVar 2) (tCons (tSl (rSl2 A.K) (tVar 0) (tPart (tVar 2)) (tPart (tOp rSub (tCB (rLenG A.K) (tCons (tVar 0) (tNil))) (tVar 3)))) (tCons (tSl (rSl2 A.K) (tVar 1) (tPart (tVar 2)) (tPart (tOp rSub (tCB (rLenG A.K) (tCons (tVar 1) (tNil))) (tVar 3)))) (tNil)))))) : TS) ⟨fun _ H2 => Q .non H2, Q, fun _ _ => False, fun _ _ => False⟩ [some (.str (S a)), some (.str (S b)), some (.int (lcp a b : Nat)), some (.int j)] H3 := fun ej => by
      have et : j = tailOf a b := ej
      subst et
      have h := tail_le a b
      walk_at "rd"
      have e1 : cutL a (some ((lcp a b : Nat) : Int)) (some ((a.length : Int) - (tailOf a b : Nat))) = goneOf a b := by
        rw [show ((a.length : Int) - (tailOf a b : Nat)) = ((a.length - tailOf a b : Nat) : Int) by omega, cutL_nn]
        rfl
      have e2 : cutL b (some ((lcp a b : Nat) : Int)) (some ((b.length : Int) - (tailOf a b : Nat))) = comeOf a b := by
        rw [show ((b.length : Int) - (tailOf a b : Nat)) = ((b.length - tailOf a b : Nat) : Int) by omega, cutL_nn]
        rfl
      rw [e1, e2]
      exact h1
    walk_at "rd"
    refine r_dec (fun c => ?_) fun c => ?_
    · walk_at "rd"
      have ka : a.length - 1 - j < a.length := by clear fin; omega
      have kb : b.length - 1 - j < b.length := by clear fin; omega
      refine r_ixS (sz (by clear fin; omega)) (atI_back (by clear fin; omega) (List.getElem?_eq_getElem ka)) ?_
      walk_at "rd"
      refine r_ixS (sz (by clear fin; omega)) (atI_back (by clear fin; omega) (List.getElem?_eq_getElem kb)) ?_
      walk_at "rd"
      rw [List.getElem?_reverse (by clear fin; omega), List.getElem?_reverse (by clear fin; omega), List.getElem?_eq_getElem ka, List.getElem?_eq_getElem kb] at hs
      unfold lcs at *
      refine r_dec (fun d => ?_) fun d => ?_
      · have hl := hs.mpr ⟨by clear fin; omega, by clear fin; omega, by rw [(List.cons.inj d).1]⟩
        refine wh_body ?_
        walk_at "rd"
        refine ⟨⟨j + 1, rfl, by clear fin; omega, rfl⟩, ?_⟩
        show min a.length b.length - ((j : Int) + 1).toNat < min a.length b.length - (j : Int).toNat
        clear fin; omega
      · refine fin (Nat.le_antisymm hj (Nat.le_of_not_lt fun z => d ?_))
        rw [Option.some.inj (hs.mp (by clear fin; omega)).2.2]
    · exact fin (by clear fin; omega)
  have hs := lcp_lt a b k hk
  walk_at "rd"
  refine r_dec (fun c => ?_) fun c => ?_
  · walk_at "rd"
    have ka : k < a.length := by clear rest; omega
    have kb : k < b.length := by clear rest; omega
    refine r_ixS (sz (by clear rest; omega)) (atI_nat (List.getElem?_eq_getElem ka)) ?_
    walk_at "rd"
    refine r_ixS (sz (by clear rest; omega)) (atI_nat (List.getElem?_eq_getElem kb)) ?_
    walk_at "rd"
    rw [List.getElem?_eq_getElem ka, List.getElem?_eq_getElem kb] at hs
    refine r_dec (fun d => ?_) fun d => ?_
    · have hl : k < lcp a b := hs.mpr ⟨ka, kb, by rw [(List.cons.inj d).1]⟩
      refine wh_body ?_
      walk_at "rd"
      refine ⟨⟨k + 1, rfl, hl, rfl⟩, ?_⟩
      show (lcp a b : Int).toNat - ((k : Int) + 1).toNat < (lcp a b : Int).toNat - (k : Int).toNat
      clear rest; omega
    · refine rest (Nat.le_antisymm hk (Nat.le_of_not_lt fun z => d ?_))
      rw [Option.some.inj (hs.mp z).2.2]
  · exact rest (by clear rest; omega)
def sp_l_names (A : Ad) : Sp := fun vs H Q E => ∃ (a : Addr) (ns : List Int), vs = [.ref a] ∧ H a = some (.lst (ns.map V.int)) ∧ ns.length ≤ 1000 ∧
  ∀ (c : List Int) (p : Addr) (H' : Hp), c.length = ns.length → c.Pairwise (· < ·) → (∀ x ∈ c, 0 ≤ x) → Same H H' → H p = none → H' p = some (.lst (c.map V.int)) → Q (.ref p) H'
def t_l_names (A : Ad) (E : XK) : TS := tSeq (tAsg (tLst (tNil)) (gName 1)) (tSeq (tAsg (tUn rNeg (tC (.int 1))) (gName 2)) (tSeq (tFor (iList A.K (tVar 0)) (gName 3) (tSeq (tAsg (tOp rAdd3 (tOp rAdd3 (tVar 2) (tC (.int 1))) (tOp rMod (tOp rDiv (tVar 3) (tC (.int 3))) (tC (.int 3)))) (gName 2)) (tCut (tIfS (tTest (tOp (rEqG A.K) (tOp rMod (tOp rDiv (tVar 3) (tC (.int 9))) (tC (.int 9))) (tC (.int 1)))) (tAsg (tOp rAdd3 (tVar 2) (tOp rPow (tC (.int 10)) (tC (.int 12)))) (gName 2)) (tNext)) (tDrop (tBM A.K "list" rAppend (tVar 1) (tCons (tVar 2) (tNil))))))) (tRet (tVar 1))))
theorem p_l_names (A : Ad) {vs : List V} {H : Hp} {Q : VK} {E : XK} (h : sp_l_names A vs H Q E) : t_l_names A E { nx := fun _ H2 => Q .non H2, rt := Q } (start ["_law_cells_here", "_law_names_here", "_law_number", "_law_cell"] vs) H := by
  obtain ⟨a, ns, rfl, hS, hl, h1⟩ := h
  (change t_l_names A E _ [_, none, none, none] _; unfold t_l_names; walk_at "rd")
  intro p H1 np s1 e1
  walk_at "rd"
  refine for_go walk_list (fun i σ H2 => ∃ (c : List Int) (m : Int) (y : Option V), σ = [some (.ref a), some (.ref p), some (.int m), y] ∧ Same H H2 ∧ H2 p = some (.lst (c.map V.int)) ∧ c.length = i ∧ c.Pairwise (· < ·) ∧ (∀ x ∈ c, 0 ≤ x ∧ x ≤ m) ∧ -1 ≤ m)
    ⟨[], -1, none, rfl, s1, e1, rfl, .nil, (fun x hx => absurd hx List.not_mem_nil), by omega⟩ (fun i σ H2 hi ⟨_, _, _, _, s, _⟩ => .of (s _ _ hS)) ?_ ?_
  · rintro i x σ H2 H3 hi ⟨c, m, y, rfl, s2, e2, hc, hp, hx0, hm⟩ ⟨rfl, hx⟩
    rw [List.length_map] at hi
    rw [List.getElem?_map, List.getElem?_eq_getElem hi] at hx
    obtain rfl := Option.some.inj hx
    walk_at "rd"
    generalize ns[i] = cell at *
    refine r_cut (fun σ' H' => ∃ m2 : Int, σ' = [some (.ref a), some (.ref p), some (.int m2), some (.int cell)] ∧ m < m2 ∧ H' = H3) ?_ ?_
    · walk_at "rd"
      refine r_dec (fun z => ?_) fun z => ?_
      · walk_at "rd"
        have : (0 : Int) ≤ 10 ^ (12 : Int).toNat := by decide
        exact ⟨_, rfl, by omega, rfl⟩
      · walk_at "rd"
        exact ⟨_, rfl, by omega, rfl⟩
    rintro σ' H4 ⟨m2, rfl, hm2, rfl⟩
    walk_at "rd"
    refine r_append e2 (szl (by rw [List.length_map]; omega)) fun H5 c5 => ?_
    walk_at "rd"
    refine ⟨c ++ [m2], m2, _, rfl, sm_chg s2 np c5, by rw [c5.1, List.map_append]; rfl, by rw [List.length_append, hc]; rfl, ?_, ?_, by omega⟩
    · rw [List.pairwise_append]
      exact ⟨hp, by simp, fun x hx y hy => by rw [List.mem_singleton] at hy; have := (hx0 x hx).2; omega⟩
    · intro x hx
      rcases List.mem_append.mp hx with q | q
      · have := hx0 x q; omega
      · rw [List.mem_singleton] at q; omega
  · rintro σ H2 ⟨c, m, y, rfl, s2, e2, hc, hp, hx0, hm⟩
    walk_at "rd"
    exact h1 c p H2 (by rw [hc, List.length_map]) hp (fun x hx => (hx0 x hx).1) s2 np e2
def sp_l_size (A : Ad) : Sp := fun vs H Q E => ∃ c : Int, vs = [.int c] ∧ ∀ r : Int, 0 ≤ r → r < 400 → Q (.int r) H
theorem u_size {A : Ad} {c : Int} {H : Hp} {Q : VK} {E : XK} (h : ∀ r : Int, 0 ≤ r → r < 400 → Q (.int r) H) : sp_l_size A [.int c] H Q E := ⟨c, rfl, h⟩
def t_l_size (A : Ad) (E : XK) : TS := tSeq (tIfS (tTest (tOp (rEqG A.K) (tOp rMod (tOp rDiv (tVar 0) (tC (.int 9))) (tC (.int 8))) (tC (.int 1)))) (tRet (tOp rMod (tOp rMul (tC (.int 17)) (tOp rDiv (tVar 0) (tC (.int 9)))) (tC (.int 400)))) (tNext)) (tRet (tOp rMod (tVar 0) (tC (.int 9))))
theorem p_l_size (A : Ad) {vs : List V} {H : Hp} {Q : VK} {E : XK} (h : sp_l_size A vs H Q E) : t_l_size A E { nx := fun _ H2 => Q .non H2, rt := Q } (start ["_law_cell"] vs) H := by
  obtain ⟨c, rfl, h1⟩ := h
  (change t_l_size A E _ [_] _; unfold t_l_size; walk_at "rd")
  refine r_dec (fun z => ?_) fun z => ?_
  · walk_at "rd"
    exact h1 _ (by omega) (by omega)
  · walk_at "rd"
    exact h1 _ (by omega) (by omega)
def sp_l_rows_of (A : Ad) : Sp := fun vs H Q E => ∃ (d : Addr) (ks : List Int) (o : Int → Option Int) (k : Int → Kept), vs = [.ref d] ∧ KeptAt H d ks o k ∧ ks.Nodup ∧ ks.length < 64 ∧
  ∀ (ys : List Int) (r : Addr) (H' : Hp), ys.Perm ks → ys.Pairwise (· < ·) → Same H H' → H r = none → RowsAt H' r ys o k → Q (.ref r) H'
theorem u_rows_of {A : Ad} {d : Addr} {ks : List Int} {o : Int → Option Int} {k : Int → Kept} {H : Hp} {Q : VK} {E : XK} (h : KeptAt H d ks o k) (nd : ks.Nodup) (hl : ks.length < 64)
    (q : ∀ (ys : List Int) (r : Addr) (H' : Hp), ys.Perm ks → ys.Pairwise (· < ·) → Same H H' → H r = none → RowsAt H' r ys o k → Q (.ref r) H') : sp_l_rows_of A [.ref d] H Q E := ⟨d, ks, o, k, rfl, h, nd, hl, q⟩
def t_l_rows_of (A : Ad) (E : XK) : TS := tRet (tLc (iList A.K (tCB (rSortedDI) (tCons (tVar 0) (tNil)))) (gName 1) (tYes) (tTup (tCons (tVar 1) (tCons (tOp (rIx A.K) (tDGet (tVar 0) (tVar 1)) (tC (.int 0))) (tCons (tOp (rIx A.K) (tDGet (tVar 0) (tVar 1)) (tC (.int 1))) (tNil))))) [1])
theorem p_l_rows_of (A : Ad) {vs : List V} {H : Hp} {Q : VK} {E : XK} (h : sp_l_rows_of A vs H Q E) : t_l_rows_of A E { nx := fun _ H2 => Q .non H2, rt := Q } (start ["_law_kept", "_law_one"] vs) H := by
  obtain ⟨d, ks, o, k, rfl, hK, nd, hl, h1⟩ := h
  obtain ⟨ka, ed, hka⟩ := id hK
  (change t_l_rows_of A E _ [_, none] _; unfold t_l_rows_of; walk_at "rd")
  refine r_sortK (.of ed) hl fun ys hp hle q H1 nq s1 e1 => ?_
  have hs := strict_of hp hle nd
  walk_at "rd"
  have hmem : ∀ {n}, n ∈ ys → n ∈ ks := fun h => hp.mem_iff.mp h
  have yl : ys.length < 64 := by rw [hp.length_eq]; exact hl
  refine lc_go walk_list (by rw [List.length_map]; omega) (fun D i acc H2 => H1 D = none ∧ Same H1 H2 ∧ ∃ ra : Int → Addr, acc = (ys.take i).map (fun n => V.ref (ra n)) ∧ ∀ n ∈ ys.take i, ∃ kv, H2 (ra n) = some (.tup [.int n, obV (o n), kv]) ∧ KvAt H2 kv (k n)) (fun D H2 hD s2 _ => ⟨hD, s2, fun _ => 0, by simp, fun n hn => by simp at hn⟩) (fun D i acc H2 hi h => .of (h.2.1 _ _ e1)) ?_ ?_
  · rintro D i x acc H2 H3 hi ha e ⟨hD, s2, ra, rfl, hra⟩ ⟨rfl, hx⟩
    rw [List.length_map] at hi
    rw [List.getElem?_map, List.getElem?_eq_getElem hi] at hx
    obtain rfl := Option.some.inj hx
    have hci : ys[i] ∈ ys := List.getElem_mem hi
    have ht := take_succ hi
    have hno : ys[i] ∉ ys.take i := fun z => by
      have nd := (hs.imp (fun h => Int.ne_of_lt h)).sublist (List.take_sublist (i + 1) ys)
      rw [ht, List.pairwise_append] at nd
      exact nd.2.2 _ z _ (by simp) rfl
    generalize ys[i] = one at *
    have s02 := s1.trans s2
    obtain ⟨kv, e2, hkv⟩ := hka one (hmem hci)
    have e22 := s02 _ _ e2
    walk_at "rd"
    refine r_dgetE (.of (s02 _ _ ed)) (nK_in (hmem hci)) ?_
    walk_at "rd"
    refine r_dgetE (.of (s02 _ _ ed)) (nK_in (hmem hci)) ?_
    walk_at "rd"
    intro t H4 nt s4 e4
    have tD : t ≠ D := fun z => by rw [z, e] at nt; cases nt
    refine lc_end ha (by omega) (s4 _ _ e) fun H5 c5 => ⟨hD, sm_chg (s2.trans s4) hD c5, fu ra one t, ?_, fun n hn => ?_⟩
    · rw [ht, List.map_append]
      show _ = _ ++ [V.ref (fu ra one t one)]
      rw [fu_eq]
      congr 1
      exact List.map_congr_left fun n hn => by rw [fu_ne fun z : n = one => hno (by rw [← z]; exact hn)]
    · have tup5 : ∀ a xs, H4 a = some (.tup xs) → H5 a = some (.tup xs) := fun a xs z => c5.2 _ _ (ne_val z (s4 _ _ e) fun z => by cases z) z
      rw [ht, List.mem_append, List.mem_singleton] at hn
      by_cases z : n = one
      · rw [z, fu_eq]; exact ⟨kv, c5.2 _ _ tD e4, hkv.sm fun a xs w => tup5 _ _ (s4 _ _ (s02 _ _ w))⟩
      · rw [fu_ne z]
        obtain ⟨kv, h2, h3⟩ := hra n (hn.resolve_right z)
        exact ⟨kv, tup5 _ _ (s4 _ _ h2), h3.sm fun a xs w => tup5 _ _ (s4 _ _ w)⟩
  · rintro D acc H2 ⟨hD, s2, ra, rfl, hra⟩ e
    rw [List.length_map, List.take_of_length_le (Nat.le_refl _)] at e hra
    exact h1 ys D H2 hp hs (s1.trans s2) (s1.free hD) ⟨ra, e, hra⟩
def sp_l_chain (A : Ad) : Sp := fun vs H Q E => ∃ (d : Addr) (n : Int) (ks : List Int) (o : Int → Option Int) (k : Int → Kept) (c : List Int), vs = [.ref d, .int n] ∧ KeptR H d ks o k ∧ Ch (lvO ks o) n c ∧ c.length ≤ 100000 ∧
  Nw H (.lst (c.map V.int)) Q
theorem u_l_chain {A : Ad} {d : Addr} {n : Int} {ks : List Int} {o : Int → Option Int} {k : Int → Kept} {c : List Int} {H : Hp} {Q : VK} {E : XK} (h1 : KeptR H d ks o k) (h2 : Ch (lvO ks o) n c) (h3 : c.length ≤ 100000) (h : Nw H (.lst (c.map V.int)) Q) : sp_l_chain A [.ref d, .int n] H Q E := ⟨d, n, ks, o, k, c, rfl, h1, h2, h3, h⟩
def t_l_chain (A : Ad) (E : XK) : TS := tSeq (tAsg (tLst (tCons (tVar 1) (tNil))) (gName 2)) (tSeq (tWhile (tB (tNotN (tOp (rIx A.K) (tDGet (tVar 0) (tOp (rIx A.K) (tVar 2) (tUn rNeg (tC (.int 1))))) (tC (.int 0))))) (tDrop (tBM A.K "list" rAppend (tVar 2) (tCons (tOp (rIx A.K) (tDGet (tVar 0) (tOp (rIx A.K) (tVar 2) (tUn rNeg (tC (.int 1))))) (tC (.int 0))) (tNil))))) (tRet (tVar 2)))
theorem p_l_chain (A : Ad) {vs : List V} {H : Hp} {Q : VK} {E : XK} (h : sp_l_chain A vs H Q E) : t_l_chain A E { nx := fun _ H2 => Q .non H2, rt := Q } (start ["_law_kept", "_law_number", "_law_chain_here"] vs) H := by
  obtain ⟨d, n, ks, o, k, c, rfl, ⟨ka, hR, hka⟩, hc, hl, h1⟩ := h
  (change t_l_chain A E _ [_, _, none] _; unfold t_l_chain; walk_at "rd")
  intro p H1 np s1 e1
  walk_at "rd"
  refine r_while (fun σ H2 => ∃ (pre : List Int) (x : Int) (r : List Int), σ = [some (.ref d), some (.int n), some (.ref p)] ∧ Same H H2 ∧ H2 p = some (.lst (pre.map V.int ++ [.int x])) ∧ Ch (lvO ks o) x r ∧ c = pre ++ r)
    (fun σ H2 => match H2 p with
      | some (.lst xs) => c.length - xs.length
      | _ => 0) ⟨[], n, c, rfl, s1, e1, hc, rfl⟩ ?_
  rintro σ H2 ⟨pre, x, r, rfl, s2, e2, hx, ec⟩
  walk_at "rd"
  refine r_ixL (.of e2) (atI_last _ _) ?_
  cases hx with
  | whole ex =>
    obtain ⟨hm, ho⟩ := look_inv ex
    obtain ⟨kv, et, _⟩ := hka x hm
    have et2 := s2 _ _ et
    refine r_dgetE (sm_rd s2 hR) (nK_in hm) ?_
    walk_at "rd"
    rw [ho]
    refine r_ndec (fun z => absurd rfl z) fun _ => ?_
    walk_at "rd"
    refine h1 p H2 np s2 ?_
    rw [e2, ec, List.map_append]
    rfl
  | @lean _ b r ex hb =>
    obtain ⟨hm, ho⟩ := look_inv ex
    obtain ⟨kv, et, _⟩ := hka x hm
    have et2 := s2 _ _ et
    rw [ho] at et2
    refine r_dgetE (sm_rd s2 hR) (nK_in hm) ?_
    walk_at "rd"
    refine r_ndec (fun _ => ?_) fun z => V.noConfusion z
    refine wh_body ?_
    walk_at "rd"
    refine r_ixL (.of e2) (atI_last _ _) ?_
    refine r_dgetE (sm_rd s2 hR) (nK_in hm) ?_
    walk_at "rd"
    have lc := congrArg List.length ec
    rw [List.length_append, List.length_cons] at lc
    refine r_append e2 (szl (by rw [List.length_append, List.length_map]; show pre.length + 1 < _; omega)) fun H3 c3 => ?_
    walk_at "rd"
    have e3 : H3 p = some (.lst ((pre ++ [x]).map V.int ++ [.int b])) := by rw [c3.1, List.map_append]; rfl
    refine ⟨⟨pre ++ [x], b, r, rfl, sm_chg s2 np c3, e3, hb, by rw [ec]; simp⟩, ?_⟩
    rw [e3, e2]
    have lb : 0 < r.length := by obtain ⟨q, rfl⟩ := hb.head; exact Nat.succ_pos _
    simp only [List.length_append, List.length_map, List.length_cons, List.length_nil]
    omega
def sp_l_held_well (A : Ad) : Sp := fun vs H Q E => ∃ (ph : Addr) (av : List Addr) (m : Nat), vs = [.ref ph] ∧ HeldAt H ph av m ∧ Q (.bl true) H
theorem u_held_well {A : Ad} {ph : Addr} {av : List Addr} {m : Nat} {H : Hp} {Q : VK} {E : XK} (h : HeldAt H ph av m) (q : Q (.bl true) H) : sp_l_held_well A [.ref ph] H Q E := ⟨ph, av, m, rfl, h, q⟩
def t_l_held_well (A : Ad) (E : XK) : TS := tSeq (tFor (iList A.K (tVar 0)) (gName 1) (tIfS (tTest (tOp (rNeG A.K) (tOp (rIx A.K) (tVar 1) (tC (.int 0))) (tOp (rIx A.K) (tVar 1) (tC (.int 1))))) (tRet (tC (.bl false))) (tNext))) (tRet (tC (.bl true)))
theorem p_l_held_well (A : Ad) {vs : List V} {H : Hp} {Q : VK} {E : XK} (h : sp_l_held_well A vs H Q E) : t_l_held_well A E { nx := fun _ H2 => Q .non H2, rt := Q } (start ["_law_held", "_law_pair"] vs) H := by
  obtain ⟨ph, av, m, rfl, ⟨ws, e, _, hw⟩, h1⟩ := h
  (change t_l_held_well A E _ [_, none] _; unfold t_l_held_well; walk_at "rd")
  refine for_go walk_list (fun i σ H2 => ∃ y : Option V, σ = [some (.ref ph), y] ∧ H2 = H) ⟨none, rfl, rfl⟩ (fun i σ H2 hi ⟨_, _, e2⟩ => by rw [e2]; exact .of e) ?_ ?_
  · rintro i x σ H2 H3 hi ⟨y, rfl, rfl⟩ ⟨rfl, hx⟩
    obtain ⟨q, q1, q2, xs, ys, rfl, _, _, _, eq, e1, e2, hp⟩ := hw x (List.mem_of_getElem? hx)
    walk_at "rd"
    refine r_neL (n := 2) (by decide) rfl rfl (.of e1) (.of e2) (Paired.mapP hp fun _ _ z => z.eqV) ?_
    walk_at "rd"
    exact ⟨_, rfl, rfl⟩
  · rintro σ H2 ⟨y, rfl, rfl⟩
    walk_at "rd"
    exact h1
def sp_change_of (A : Ad) : Sp := fun vs H Q E => ∃ a b : List Nat, vs = [.str (S a), .str (S b)] ∧ a.length ≤ 1000000 ∧ b.length ≤ 1000000 ∧ Nw H (.tup [.int (atOf a b), .str (S (goneOf a b)), .str (S (comeOf a b))]) Q
def t_change_of (A : Ad) (E : XK) : TS := tSeq (tAsg (tCall (sp_alike_ahead A) [] E0 (tCons (tVar 0) (tCons (tVar 1) (tNil)))) (gName 2)) (tSeq (tAsg (tCall (sp_alike_behind A) [] E0 (tCons (tVar 0) (tCons (tVar 1) (tCons (tOp rSub (tCB (rMin2) (tCons (tCB (rLenG A.K) (tCons (tVar 0) (tNil))) (tCons (tCB (rLenG A.K) (tCons (tVar 1) (tNil))) (tNil)))) (tVar 2)) (tNil))))) (gName 3)) (tRet (tTup (tCons (tVar 2) (tCons (tSl (rSl2 A.K) (tVar 0) (tPart (tVar 2)) (tPart (tOp rSub (tCB (rLenG A.K) (tCons (tVar 0) (tNil))) (tVar 3)))) (tCons (tSl (rSl2 A.K) (tVar 1) (tPart (tVar 2)) (tPart (tOp rSub (tCB (rLenG A.K) (tCons (tVar 1) (tNil))) (tVar 3)))) (tNil)))))))
theorem p_change_of (A : Ad) {vs : List V} {H : Hp} {Q : VK} {E : XK} (h : sp_change_of A vs H Q E) : t_change_of A E { nx := fun _ H2 => Q .non H2, rt := Q } (start ["old", "new", "at", "many"] vs) H := by
  obtain ⟨a, b, rfl, la, lb, h1⟩ := h
  (change t_change_of A E _ [_, _, none, none] _; unfold t_change_of; walk_at "rd")
  refine ⟨a, b, rfl, la, lb, ?_⟩
  walk_at "rd"
  have l1 := lcp_le1 a b
  have l2 := lcp_le2 a b
  rw [show (min (a.length : Int) b.length - (lcp a b : Nat)) = ((min a.length b.length - lcp a b : Nat) : Int) by omega]
  refine ⟨a, b, _, rfl, la, lb, by omega, by omega, ?_⟩
  walk_at "rd"
  have h := tail_le a b
  have e1 : cutL a (some ((lcp a b : Nat) : Int)) (some ((a.length : Int) - (min (min a.length b.length - lcp a b) (lcs a b) : Nat))) = goneOf a b := by
    rw [show ((a.length : Int) - (min (min a.length b.length - lcp a b) (lcs a b) : Nat)) = ((a.length - tailOf a b : Nat) : Int) by unfold tailOf; omega, cutL_nn]
    rfl
  have e2 : cutL b (some ((lcp a b : Nat) : Int)) (some ((b.length : Int) - (min (min a.length b.length - lcp a b) (lcs a b) : Nat))) = comeOf a b := by
    rw [show ((b.length : Int) - (min (min a.length b.length - lcp a b) (lcs a b) : Nat)) = ((b.length - tailOf a b : Nat) : Int) by unfold tailOf; omega, cutL_nn]
    rfl
  rw [e1, e2]
  exact h1
def sp_tree_of (A : Ad) : Sp := fun vs H Q E => ∃ (d : Addr) (n : Int) (lv : List (Int × Option Int)), vs = [.ref d, .int n] ∧ H d = some (.dK (bK lv)) ∧ Forest lv ∧ n ∈ keysOf lv ∧
  ∀ (c : List Int) (p : Addr) (H' : Hp), (∀ x, x ∈ c ↔ InTree lv n x) → c.length ≤ lv.length → Same H H' → H p = none → H' p = some (.lst (c.map V.int)) → Q (.ref p) H'
def t_tree_of (A : Ad) (E : XK) : TS := tSeq (tAsg (tOp (rIx A.K) (tCall (sp_chain_of A) [] E0 (tCons (tVar 0) (tCons (tVar 1) (tNil)))) (tUn rNeg (tC (.int 1)))) (gName 2)) (tRet (tLockE (tLc (iKeys (tVar 0)) (gName 3) (tTest (tOp (rEqG A.K) (tOp (rIx A.K) (tCall (sp_chain_of A) [] E0 (tCons (tVar 0) (tCons (tVar 3) (tNil)))) (tUn rNeg (tC (.int 1)))) (tVar 2))) (tVar 3) [3])))
theorem p_tree_of (A : Ad) {vs : List V} {H : Hp} {Q : VK} {E : XK} (h : sp_tree_of A vs H Q E) : t_tree_of A E { nx := fun _ H2 => Q .non H2, rt := Q } (start ["bases", "number", "whole", "one"] vs) H := by
  obtain ⟨d, n, lv, rfl, hR, F, hn, h1⟩ := h
  (change t_tree_of A E _ [_, _, none, none] _; unfold t_tree_of; walk_at "rd")
  obtain ⟨c0, hc0⟩ := F.ch hn
  have F3 := F.len
  refine u_chain_of (.of hR) hc0 (by have := hc0.len; omega) fun p1 H1 np1 s1 e1 => ?_
  walk_at "rd"
  refine r_ixL (.of e1) (last_at hc0) ?_
  walk_at "rd"
  refine r_lockE (s1 _ _ hR) fun od H2 c2 => ?_
  walk_at "rd"
  refine ⟨d, od, rfl, .inl ⟨_, c2.1, ?_⟩⟩
  have f2 : Off d H H2 := .of s1 c2
  refine lc_go walk_keys (by rw [bK_len]; omega) (fun D i acc H3 => H2 D = none ∧ Same H2 H3 ∧ ∃ c : List Int, acc = c.map V.int ∧ c.length ≤ i ∧ ∀ x, x ∈ c ↔ x ∈ (keysOf lv).take i ∧ InTree lv n x) (fun D H3 hD s3 _ => ⟨hD, s3, [], rfl, Nat.le_refl _, fun x => by simp⟩) (fun D i acc H3 hi h => h.2.1 _ _ c2.1) ?_ ?_
  · rintro D i x acc H3 H4 hi ha e ⟨hD, s3, c, rfl, hcl, hc⟩ ⟨rfl, k, v, hk, rfl⟩
    rw [bK_len] at hi
    rw [bK_at hi] at hk
    cases hk
    have hkl : i < (keysOf lv).length := by rw [List.length_map]; exact hi
    have hki : (keysOf lv)[i] = lv[i].1 := List.getElem_map _
    have hkm : lv[i].1 ∈ keysOf lv := by rw [← hki]; exact List.getElem_mem _
    obtain ⟨ci, hci⟩ := F.ch hkm
    show gName 3 (.int lv[i].1) _ _ _
    walk_at "rd"
    refine u_chain_of (sm_rd s3 (.inr ⟨od, c2.1⟩)) hci (by have := hci.len; omega) fun p5 H5 np5 s5 e5 => ?_
    walk_at "rd"
    refine r_ixL (.of e5) (last_at hci) ?_
    walk_at "rd"
    have hD5 : H5 D = _ := s5 _ _ e
    have hs5 := s3.trans s5
    have ht := take_succ hkl
    rw [hki] at ht
    refine r_dec (fun z => ?_) fun z => ?_
    · walk_at "rd"
      refine lc_end ha (by omega) hD5 fun H6 c6 => ⟨hD, sm_chg hs5 hD c6, c ++ [lv[i].1], by rw [List.map_append]; rfl, by simp; omega, fun x => ?_⟩
      rw [ht, List.mem_append, List.mem_append, hc, List.mem_singleton]
      constructor
      · rintro (q | rfl)
        · exact ⟨.inl q.1, q.2⟩
        · exact ⟨.inr rfl, c0, ci, hc0, hci, z⟩
      · rintro ⟨q | rfl, r⟩
        · exact .inl ⟨q, r⟩
        · exact .inr rfl
    · walk_at "rd"
      refine lc_not ha hD5 ⟨hD, hs5, c, rfl, by omega, fun x => ?_⟩
      rw [ht, List.mem_append, hc, List.mem_singleton]
      constructor
      · exact fun q => ⟨.inl q.1, q.2⟩
      · rintro ⟨q | rfl, r⟩
        · exact ⟨q, r⟩
        · obtain ⟨c5, c6, g1, g2, g3⟩ := r
          rw [g1.inj hc0, g2.inj hci] at g3
          exact absurd g3 z
  · rintro D acc H3 ⟨hD, s3, c, rfl, hcl, hc⟩ e
    refine un (s3 _ _ c2.1) fun H4 c4 => ?_
    have f3 := f2.sm s3
    rw [bK_len] at hcl hc
    refine h1 c D H4 (fun x => ?_) hcl (f3.back hR c4) (f2.free hD) (c4.2 _ _ (f2.ne hD) e)
    rw [hc, List.take_of_length_le (by rw [List.length_map]; omega)]
    constructor
    · exact fun q => q.2
    · refine fun q => ⟨?_, q⟩
      obtain ⟨_, d5, _, g2, _⟩ := q
      obtain ⟨s, rfl⟩ := g2.head
      exact g2.keys x List.mem_cons_self
def sp_reach (A : Ad) : Sp := fun vs H Q E => ∃ (d : Addr) (n : Int) (lv : List (Int × Option Int)), vs = [.ref d, .int n] ∧ H d = some (.dK (bK lv)) ∧ Forest lv ∧ n ∈ keysOf lv ∧
  ∀ (r : Nat) (H' : Hp), RS lv n r → Same H H' → Q (.int r) H'
theorem far_down {lv : List (Int × Option Int)} {m : Int} {d : List Int} (g : Ch lv m d) : ∀ (j : Nat) {x : Int}, Far lv d x j → ∀ i, i ≤ j → ∃ y, Far lv d y i
  | 0, x, h, i, hi => ⟨x, by rw [show i = 0 by omega]; exact h⟩
  | j + 1, x, h, i, hi => by
    by_cases z : i = j + 1
    · rw [z]; exact ⟨x, h⟩
    · obtain ⟨y, hy, _⟩ := Far.nearer g h
      exact far_down g j hy i (by omega)
def t_reach (A : Ad) (E : XK) : TS := tSeq (tAsg (tCall (sp_sides A) [] E0 (tCons (tVar 0) (tNil))) (gName 2)) (tSeq (tAsg (tDisp [(tVar 1, tC (.bl true))]) (gName 3)) (tSeq (tAsg (tLst (tCons (tVar 1) (tNil))) (gName 4)) (tSeq (tAsg (tUn rNeg (tC (.int 1))) (gName 5)) (tSeq (tWhile (tTest (tOp (rNeG A.K) (tVar 4) (tLst (tNil)))) (tSeq (tAsg (tOp rAdd3 (tVar 5) (tC (.int 1))) (gName 5)) (tSeq (tAsg (tLst (tNil)) (gName 6)) (tSeq (tFor (iList A.K (tVar 4)) (gName 7) (tFor (iList A.K (tDGet (tVar 2) (tVar 7))) (gName 8) (tIfS (tB (tDNotIn (tVar 8) (tVar 3))) (tSeq (sDPut (tVar 3) (tVar 8) (tC (.bl true))) (tDrop (tBM A.K "list" rAppend (tVar 6) (tCons (tVar 8) (tNil))))) (tNext)))) (tAsg (tVar 6) (gName 4)))))) (tRet (tVar 5))))))
theorem p_reach (A : Ad) {vs : List V} {H : Hp} {Q : VK} {E : XK} (h : sp_reach A vs H Q E) : t_reach A E { nx := fun _ H2 => Q .non H2, rt := Q } (start ["bases", "number", "near", "met", "row", "far", "more", "one", "other"] vs) H := by
  obtain ⟨d, n, lv, rfl, hR, F, hn, h1⟩ := h
  have F3 := F.len
  obtain ⟨c0, hc0⟩ := F.ch hn
  (change t_reach A E _ [_, _, none, none, none, none, none, none, none] _; unfold t_reach; walk_at "rd")
  refine ⟨d, lv, rfl, hR, F, fun f ad nb H1 s1 nf ef hnb => ?_⟩
  walk_at "rd"
  refine r_disp1 (n := n) (v := .bl true) (fun _ _ h => ⟨_, rfl, h⟩) (fun _ _ h => h) fun m H2 nm s2 e2 => ?_
  walk_at "rd"
  intro p H3 np s3 e3
  walk_at "rd"
  have far0 : ∀ x, Far lv c0 x 0 ↔ x = n := fun x => ⟨fun ⟨c, hc, e, z⟩ => btw_zero hc hc0 e z, fun e => by subst e; exact ⟨c0, hc0, rfl, btw_self hc0⟩⟩
  have kbound : ∀ l : List Int, l.Nodup → (∀ x ∈ l, ∃ j, Far lv c0 x j) → l.length ≤ 1000 := fun l nd h => by
    have := nodup_len l (keysOf lv) nd fun x hx => (h x hx).elim fun _ q => q.key
    rw [List.length_map] at this
    omega
  refine r_while (fun σ H4 => ∃ (k : Nat) (row ks : List Int) (pr : Addr) (y6 y7 y8 : Option V), σ = [some (.ref d), some (.int n), some (.ref f), some (.ref m), some (.ref pr), some (.int ((k : Int) - 1)), y6, y7, y8] ∧ Same H1 H4 ∧
      H4 m = some (.dK (nK (fun _ => .bl true) ks)) ∧ H4 pr = some (.lst (row.map V.int)) ∧ (∀ x, x ∈ row ↔ Far lv c0 x k) ∧ (∀ x, x ∈ ks ↔ ∃ j, j ≤ k ∧ Far lv c0 x j) ∧ ks.Nodup ∧ row.Nodup ∧ (k = 0 ∨ ∃ x, Far lv c0 x (k - 1)))
    (fun σ _ => match σ with
      | [_, _, _, _, _, some (.int k), _, _, _] => 2 * lv.length + 2 - (k + 1).toNat
      | _ => 0) ⟨0, [n], [n], p, none, none, none, rfl, s2.trans s3, s3 _ _ e2, e3, fun x => by rw [far0, List.mem_singleton], fun x => ?_, by simp, by simp, .inl rfl⟩ ?_
  · rw [List.mem_singleton]
    exact ⟨fun e => ⟨0, Nat.le_refl _, (far0 x).mpr e⟩, fun ⟨j, hj, q⟩ => (far0 x).mp (by rw [show j = 0 by omega] at q; exact q)⟩
  rintro σ H4 ⟨k, row, ks, pr, y6, y7, y8, rfl, s4, em, er, hrow, hks, ndk, ndr, hk⟩
  walk_at "rd"
  intro q H5 nq s5 e5
  walk_at "rd"
  refine r_neD (inD row) (inD []) (inD_dp (.of (s5 _ _ er))) (inD_dp (c := []) (.of e5)) (inD_shaped _) (inD_shaped _) ?_
  rw [eqv_inD]
  walk_at "rd"
  refine r_ndec (fun z => ?_) fun z => ?_
  · obtain ⟨x0, hx0⟩ := List.exists_mem_of_ne_nil row z
    have hfar0 := (hrow x0).mp hx0
    have kl := Far.len hc0 hfar0
    have rl := kbound row ndr fun x hx => ⟨_, (hrow x).mp hx⟩
    refine wh_body ?_
    walk_at "rd"
    rw [show ((k : Int) - 1 + 1) = (k : Int) by omega]
    intro pm H6 npm s6 e6
    walk_at "rd"
    have er6 := s6 _ _ (s5 _ _ er)
    have em6 := s6 _ _ (s5 _ _ em)
    have pmr : pm ≠ pr := fun z => by rw [z, s5 _ _ er] at npm; cases npm
    have pmm : pm ≠ m := fun z => by rw [z, s5 _ _ em] at npm; cases npm
    have mr : m ≠ pr := ne_val em er (fun z => by cases z)
    have npm1 : H1 pm = none := (s4.trans s5).free npm
    have nm1 : H1 m = none := nm
    refine for_go walk_list (fun i σ H7 => ∃ (more : List Int) (y7 y8 : Option V), σ = [some (.ref d), some (.int n), some (.ref f), some (.ref m), some (.ref pr), some (.int (k : Int)), some (.ref pm), y7, y8] ∧ Same H1 H7 ∧
        H7 m = some (.dK (nK (fun _ => .bl true) (ks ++ more))) ∧ H7 pr = some (.lst (row.map V.int)) ∧ H7 pm = some (.lst (more.map V.int)) ∧ (ks ++ more).Nodup ∧ (∀ x ∈ more, Far lv c0 x (k + 1)) ∧ ∀ y ∈ row.take i, ∀ x, Adj lv y x → Far lv c0 x (k + 1) → x ∈ more)
      ⟨[], _, _, rfl, (s4.trans s5).trans s6, by rw [List.append_nil]; exact em6, er6, e6, by rw [List.append_nil]; exact ndk, (fun x hx => absurd hx List.not_mem_nil), fun y hy => by simp at hy⟩ (fun i σ H7 hi ⟨_, _, _, _, _, _, h, _⟩ => .of h) ?_ ?_
    · rintro i x σ H7 H8 hi ⟨more, y7, y8, rfl, s7, em7, er7, ep7, nd7, hm7, ha7⟩ ⟨rfl, hx⟩
      rw [List.length_map] at hi
      rw [List.getElem?_map, List.getElem?_eq_getElem hi] at hx
      obtain rfl := Option.some.inj hx
      have hri : row[i] ∈ row := List.getElem_mem hi
      have ht := take_succ hi
      generalize row[i] = one at *
      have hone := (hrow one).mp hri
      obtain ⟨_, g2, g3, g4⟩ := hnb one hone.key
      walk_at "rd"
      refine r_dgetE (.of (s7 _ _ ef)) (nK_in hone.key) ?_
      walk_at "rd"
      refine for_go walk_list (fun j σ H9 => ∃ (more : List Int) (y8 : Option V), σ = [some (.ref d), some (.int n), some (.ref f), some (.ref m), some (.ref pr), some (.int (k : Int)), some (.ref pm), some (.int one), y8] ∧ Same H1 H9 ∧
          H9 m = some (.dK (nK (fun _ => .bl true) (ks ++ more))) ∧ H9 pr = some (.lst (row.map V.int)) ∧ H9 pm = some (.lst (more.map V.int)) ∧ (ks ++ more).Nodup ∧ (∀ x ∈ more, Far lv c0 x (k + 1)) ∧ (∀ y ∈ row.take i, ∀ x, Adj lv y x → Far lv c0 x (k + 1) → x ∈ more) ∧
          ∀ x ∈ (nb one).take j, Far lv c0 x (k + 1) → x ∈ more)
        ⟨more, _, rfl, s7, em7, er7, ep7, nd7, hm7, ha7, fun x hx => by simp at hx⟩ (fun j σ H9 hj ⟨_, _, _, s, _⟩ => .of (s _ _ g2)) ?_ ?_
      · rintro j x σ H9 H10 hj ⟨more, y8, rfl, s9, em9, er9, ep9, nd9, hm9, ha9, hb9⟩ ⟨rfl, hx⟩
        rw [List.length_map] at hj
        rw [List.getElem?_map, List.getElem?_eq_getElem hj] at hx
        obtain rfl := Option.some.inj hx
        have hni : (nb one)[j] ∈ nb one := List.getElem_mem hj
        have ht2 := take_succ hj
        generalize (nb one)[j] = other at *
        have hadj := (g4 other).mp hni
        have bnd := kbound _ nd9 fun x hx => (List.mem_append.mp hx).elim (fun q => ((hks x).mp q).imp fun _ w => w.2) fun q => ⟨_, hm9 x q⟩
        walk_at "rd"
        refine r_dinE (.of em9) ?_
        rw [nK_val]
        by_cases hin : other ∈ ks ++ more
        · rw [if_pos hin, Option.isSome_some]
          walk_at "rd"
          refine ⟨more, _, rfl, s9, em9, er9, ep9, nd9, hm9, ha9, fun x hx hf => ?_⟩
          rw [ht2, List.mem_append, List.mem_singleton] at hx
          rcases hx with hx | rfl
          · exact hb9 x hx hf
          · rcases List.mem_append.mp hin with w | w
            · obtain ⟨j2, hj2, hf2⟩ := (hks x).mp w
              have := hf2.inj hf
              omega
            · exact w
        · rw [if_neg hin, Option.isSome_none]
          walk_at "rd"
          rw [List.length_append] at bnd
          refine r_dputE em9 (szl (by rw [nK_len, List.length_append]; omega)) fun H11 c11 => ?_
          have ep11 := c11.2 _ _ pmm ep9
          walk_at "rd"
          refine r_append ep11 (szl (by rw [List.length_map]; omega)) fun H12 c12 => ?_
          walk_at "rd"
          have hfar : Far lv c0 other (k + 1) := by
            obtain ⟨j2, hj2, e⟩ := Far.adj hc0 F hone hadj
            rcases e with e | e
            · rw [e] at hj2; exact hj2
            · exact absurd (List.mem_append_left _ ((hks other).mpr ⟨j2, by omega, hj2⟩)) hin
          refine ⟨more ++ [other], _, rfl, sm_chg (sm_chg s9 nm1 c11) npm1 c12, ?_, c12.2 _ _ pmr.symm (c11.2 _ _ mr.symm er9), by rw [c12.1, List.map_append]; rfl, ?_, ?_, ?_, ?_⟩
          · rw [c12.2 _ _ pmm.symm c11.1, ← List.append_assoc, ← nK_put hin]
          · rw [← List.append_assoc, List.nodup_append]
            exact ⟨nd9, by simp, fun x hx y hy e => hin (by rw [List.mem_singleton] at hy; rw [← hy, ← e]; exact hx)⟩
          · intro x hx
            rcases List.mem_append.mp hx with w | w
            · exact hm9 x w
            · rw [List.mem_singleton] at w; rw [w]; exact hfar
          · exact fun y hy x h2 h3 => List.mem_append_left _ (ha9 y hy x h2 h3)
          · intro x hx hf
            rw [ht2, List.mem_append] at hx
            rcases hx with hx | hx
            · exact List.mem_append_left _ (hb9 x hx hf)
            · exact List.mem_append_right _ hx
      · rintro σ H9 ⟨more, y8, rfl, s9, em9, er9, ep9, nd9, hm9, ha9, hb9⟩
        rw [List.length_map, List.take_of_length_le (Nat.le_refl _)] at hb9
        refine ⟨more, _, _, rfl, s9, em9, er9, ep9, nd9, hm9, fun y hy x h2 h3 => ?_⟩
        rw [ht, List.mem_append, List.mem_singleton] at hy
        rcases hy with hy | rfl
        · exact ha9 y hy x h2 h3
        · exact hb9 x ((g4 x).mpr h2) h3
    · rintro σ H7 ⟨more, y7, y8, rfl, s7, em7, er7, ep7, nd7, hm7, ha7⟩
      rw [List.length_map, List.take_of_length_le (Nat.le_refl _)] at ha7
      walk_at "rd"
      have hmore : ∀ x, x ∈ more ↔ Far lv c0 x (k + 1) := fun x => ⟨hm7 x, fun h => by
        obtain ⟨y, hy, a⟩ := Far.nearer hc0 h
        exact ha7 y ((hrow y).mpr hy) x a h⟩
      refine ⟨⟨k + 1, more, ks ++ more, pm, _, _, _, by rw [show ((k + 1 : Nat) : Int) - 1 = (k : Int) by omega], s7, em7, ep7, hmore, fun x => ?_, nd7, (List.nodup_append.mp nd7).2.1, .inr ⟨x0, hfar0⟩⟩, ?_⟩
      · rw [List.mem_append, hks, hmore]
        constructor
        · rintro (⟨j, hj, q⟩ | q)
          · exact ⟨j, by omega, q⟩
          · exact ⟨_, Nat.le_refl _, q⟩
        · rintro ⟨j, hj, q⟩
          by_cases w : j = k + 1
          · rw [w] at q; exact .inr q
          · exact .inl ⟨j, by omega, q⟩
      · show 2 * lv.length + 2 - ((k : Int) + 1).toNat < 2 * lv.length + 2 - ((k : Int) - 1 + 1).toNat
        omega
  · walk_at "rd"
    have hno : ∀ x, ¬ Far lv c0 x k := fun x h => by
      have := (hrow x).mpr h
      rw [z] at this; cases this
    have k0 : k ≠ 0 := fun w => hno n (by rw [w]; exact (far0 n).mpr rfl)
    rw [show ((k : Int) - 1) = ((k - 1 : Nat) : Int) by omega]
    refine h1 (k - 1) H5 ⟨c0, hc0, hk.resolve_left k0, fun x j h => ?_⟩ ((s1.trans s4).trans s5)
    by_cases w : j ≤ k - 1
    · exact w
    · obtain ⟨y, hy⟩ := far_down hc0 j h k (by omega)
      exact absurd hy (hno y)
def sp_P_init (A : Ad) : Sp := fun vs H Q E => ∃ (p dx : Addr) (v : V), vs = [.ref p, v] ∧ H p = some (.ins A.cPack dx []) ∧
  ((∃ b, v = .int b ∧ 0 ≤ b ∧ b ≤ 1000 ∧ ∀ (dl ds : Addr) (H' : Hp), (∀ a u, a ≠ p → H a = some u → H' a = some u) → H dl = none → H ds = none → PkAt A H' p dl ds b 0 [] (fun _ => none) (fun _ => .tx []) → Q .non H') ∨
   (((∃ b, v = .int b ∧ (b < 0 ∨ 1000 < b)) ∨ (∃ t, v = .bl t) ∨ v = .non ∨ ∃ z, v = .str z) ∧ E (.ref A.cBadBound) none H))
theorem u_mkpack {A : Ad} {b : Int} {p dx : Addr} {H : Hp} {Q : VK} {E : XK} (b0 : 0 ≤ b) (b1 : b ≤ 1000) (e : H p = some (.ins A.cPack dx [])) (q : ∀ (dl ds : Addr) (H' : Hp), (∀ a u, a ≠ p → H a = some u → H' a = some u) → H dl = none → H ds = none → PkAt A H' p dl ds b 0 [] (fun _ => none) (fun _ => .tx []) → Q .non H') : sp_P_init A [.ref p, .int b] H Q E := ⟨p, dx, _, rfl, e, .inl ⟨b, rfl, b0, b1, q⟩⟩
def t_P_init (A : Ad) (E : XK) : TS := tSeq (tIfS (tOr (tNot (tB (tCall (sp_is_number A) [] E (tCons (tVar 1) (tNil))))) (tOr (tTest (tOp (rLt) (tVar 1) (tC (.int 0)))) (tTest (tOp (rGt) (tVar 1) (tC (.int 1000)))))) (tRaise A.cBadBound E) (tNext)) (tSeq (sFld A.K (tVar 0) (tVar 1) "bound") (tSeq (sFld A.K (tVar 0) (tDNewK) "leans") (tSeq (sFld A.K (tVar 0) (tDNewK) "stock") (sFld A.K (tVar 0) (tC (.int 0)) "coming"))))
theorem p_P_init (A : Ad) (pk : PkOk A) {vs : List V} {H : Hp} {Q : VK} {E : XK} (h : sp_P_init A vs H Q E) : t_P_init A E { nx := fun _ H2 => Q .non H2, rt := Q } (start ["self", "bound"] vs) H := by
  obtain ⟨p, dx, v, rfl, ip, h1⟩ := h
  rcases h1 with ⟨b, rfl, b0, b1, h1⟩ | ⟨hv, h1⟩
  · (change t_P_init A E _ [_, _] _; unfold t_P_init; walk_at "rd")
    refine r_dec (fun z => by omega) fun _ => ?_
    walk_at "rd"
    refine r_dec (fun z => by omega) fun _ => ?_
    walk_at "rd"
    refine r_sfldE ip pk.cl pk.nb (by decide) fun H1 c1 => ?_
    walk_at "rd"
    intro dl H2 nl s2 e2
    walk_at "rd"
    refine r_sfldE (s2 _ _ c1.1) pk.cl pk.nl (show 1 < 1000 by decide) fun H3 c3 => ?_
    walk_at "rd"
    intro ds H4 ns s4 e4
    walk_at "rd"
    refine r_sfldE (s4 _ _ c3.1) pk.cl pk.ns (show 2 < 1000 by decide) fun H5 c5 => ?_
    walk_at "rd"
    refine r_sfldE c5.1 pk.cl pk.nc (show 3 < 1000 by decide) fun H6 c6 => ?_
    have fin : ∀ {Q : Prop}, Q → Q := id
    have npl : dl ≠ p := fun z => by rw [z, c1.1] at nl; cases nl
    have e3 : H3 dl = some (.dK []) := c3.2 _ _ npl e2
    have nps : ds ≠ p := fun z => by rw [z, c3.1] at ns; cases ns
    have nls : dl ≠ ds := fun z => by rw [z, ] at e3; rw [e3] at ns; cases ns
    have fr : ∀ a u, a ≠ p → H a = some u → H6 a = some u := fun a u n e => c6.2 _ _ n (c5.2 _ _ n (s4 _ _ (c3.2 _ _ n (s2 _ _ (c1.2 _ _ n e)))))
    have fdl : H dl = none := by
      cases q : H dl with
      | none => rfl
      | some u => have := c1.2 _ _ npl q; rw [nl] at this; cases this
    have fds : H ds = none := by
      cases q : H ds with
      | none => rfl
      | some u => have := c3.2 _ _ nps (s2 _ _ (c1.2 _ _ nps q)); rw [ns] at this; cases this
    refine h1 dl ds H6 fr fdl fds ⟨⟨dx, ?_⟩, c6.2 _ _ npl (c5.2 _ _ npl (s4 _ _ e3)), ⟨fun _ => .non, c6.2 _ _ nps (c5.2 _ _ nps e4), fun n hn => by cases hn⟩, nls⟩
    rw [c6.1]
    have e : putF ("coming" : Str) (.int 0) (putF ("stock" : Str) (.ref ds) (putF ("leans" : Str) (.ref dl) (putF ("bound" : Str) (.int b) []))) = fsP b dl ds 0 := by
      unfold fsP
      rw [putF, putF, if_neg (by decide +kernel), putF, putF, if_neg (by decide +kernel), putF, if_neg (by decide +kernel), putF, putF, if_neg (by decide +kernel), putF, if_neg (by decide +kernel), putF, if_neg (by decide +kernel), putF]
    rw [e]
  · rcases hv with ⟨b, rfl, hb⟩ | ⟨t, rfl⟩ | rfl | ⟨z, rfl⟩
    · (change t_P_init A E _ [_, _] _; unfold t_P_init; walk_at "rd")
      refine r_dec (fun z => ?_) fun z => ?_
      · walk_at "rd"
        exact h1
      · walk_at "rd"
        refine r_dec (fun z => ?_) fun z => by omega
        walk_at "rd"
        exact h1
    · (change t_P_init A E _ [_, _] _; unfold t_P_init; walk_at "rd")
      refine ⟨_, false, rfl, .inr ⟨rfl, .inl ⟨_, rfl⟩⟩, ?_⟩
      walk_at "rd"
      exact h1
    · (change t_P_init A E _ [_, _] _; unfold t_P_init; walk_at "rd")
      refine ⟨_, false, rfl, .inr ⟨rfl, .inr (.inl rfl)⟩, ?_⟩
      walk_at "rd"
      exact h1
    · (change t_P_init A E _ [_, _] _; unfold t_P_init; walk_at "rd")
      refine ⟨_, false, rfl, .inr ⟨rfl, .inr (.inr (.inl ⟨_, rfl⟩))⟩, ?_⟩
      walk_at "rd"
      exact h1
def sp_P_need (A : Ad) : Sp := fun vs H Q E => ∃ (p dl ds : Addr) (b co : Int) (ks : List Int) (o : Int → Option Int) (k : Int → Kept) (v : V), vs = [.ref p, v] ∧ PkR A H p dl ds b co ks o k ∧
  (∀ n, v = .int n → n ∈ ks → Q .non H) ∧ (NoVer H ks v → E (.ref A.cNoVersion) none H) ∧ ((∃ n, v = .int n ∧ n ∈ ks) ∨ NoVer H ks v)
theorem u_need {A : Ad} {p dl ds : Addr} {b co : Int} {ks : List Int} {o : Int → Option Int} {k : Int → Kept} {n : Int} {H : Hp} {Q : VK} {E : XK} (h : PkR A H p dl ds b co ks o k) (hn : n ∈ ks) (q : Q .non H) : sp_P_need A [.ref p, .int n] H Q E :=
  ⟨p, dl, ds, b, co, ks, o, k, _, rfl, h, fun _ _ _ => q, fun w => absurd w (by
    rintro (⟨i, e, h⟩ | ⟨t, e⟩ | e | ⟨z, e⟩ | ⟨a, xs, e, _⟩ | ⟨a, xs, e, _⟩ | ⟨a, xs, e, _⟩) <;> cases e
    exact h hn), .inl ⟨n, rfl, hn⟩⟩
theorem u_needX {A : Ad} {p dl ds : Addr} {b co : Int} {ks : List Int} {o : Int → Option Int} {k : Int → Kept} {v : V} {H : Hp} {Q : VK} {E : XK} (h : PkR A H p dl ds b co ks o k) (hn : NoVer H ks v) (q : E (.ref A.cNoVersion) none H) : sp_P_need A [.ref p, v] H Q E :=
  ⟨p, dl, ds, b, co, ks, o, k, _, rfl, h, fun n e m => absurd hn (by
    subst e
    rintro (⟨i, e, h⟩ | ⟨t, e⟩ | e | ⟨z, e⟩ | ⟨a, xs, e, _⟩ | ⟨a, xs, e, _⟩ | ⟨a, xs, e, _⟩) <;> cases e
    exact h m), fun _ => q, .inr hn⟩
def t_P_need (A : Ad) (E : XK) : TS := tIfS (tOr (tNot (tB (tCall (sp_is_number A) [] E (tCons (tVar 1) (tNil))))) (tB (tDNotIn (tVar 1) (tFld A.K (tVar 0) "leans")))) (tRaise A.cNoVersion E) (tNext)
theorem p_P_need (A : Ad) (pk : PkOk A) {vs : List V} {H : Hp} {Q : VK} {E : XK} (h : sp_P_need A vs H Q E) : t_P_need A E { nx := fun _ H2 => Q .non H2, rt := Q } (start ["self", "number"] vs) H := by
  obtain ⟨p, dl, ds, b, co, ks, o, k, v, rfl, hP, h1, h2, hv⟩ := h
  obtain ⟨⟨dx, ip⟩, il, _⟩ := id hP
  rcases hv with ⟨n, rfl, hn⟩ | hv
  · (change t_P_need A E _ [_, _] _; unfold t_P_need; walk_at "rd")
    refine r_dinE il ?_
    rw [nK_val, if_pos hn, Option.isSome_some]
    walk_at "rd"
    exact h1 n rfl hn
  · have h3 := h2 hv
    rcases hv with ⟨i, rfl, hi⟩ | hv
    · (change t_P_need A E _ [_, _] _; unfold t_P_need; walk_at "rd")
      refine r_dinE il ?_
      rw [nK_val, if_neg hi, Option.isSome_none]
      walk_at "rd"
      exact h3
    · (change t_P_need A E _ [_, _] _; unfold t_P_need; walk_at "rd")
      refine ⟨v, false, rfl, .inr ⟨rfl, hv⟩, ?_⟩
      walk_at "rd"
      exact h3
def sp_P_rows (A : Ad) : Sp := fun vs H Q E => ∃ (p dl ds : Addr) (b co : Int) (ks : List Int) (o : Int → Option Int) (k : Int → Kept), vs = [.ref p] ∧ PkR A H p dl ds b co ks o k ∧ ks.Pairwise (· < ·) ∧ ks.length < 64 ∧
  ∀ (r : Addr) (H' : Hp), Same H H' → H r = none → RowsAt H' r ks o k → Q (.ref r) H'
def t_P_rows (A : Ad) (E : XK) : TS := tRet (tLc (iList A.K (tMeth A.cPack "numbers" (sp_P_numbers A) [] E0 (tVar 0) (tNil))) (gName 1) (tYes) (tTup (tCons (tVar 1) (tCons (tDGet (tFld A.K (tVar 0) "leans") (tVar 1)) (tCons (tDGet (tFld A.K (tVar 0) "stock") (tVar 1)) (tNil))))) [1])
theorem p_P_rows (A : Ad) (pk : PkOk A) {vs : List V} {H : Hp} {Q : VK} {E : XK} (h : sp_P_rows A vs H Q E) : t_P_rows A E { nx := fun _ H2 => Q .non H2, rt := Q } (start ["self", "one"] vs) H := by
  obtain ⟨p, dl, ds, b, co, ks, o, k, rfl, hP, hs, hl, h1⟩ := h
  obtain ⟨⟨dx, ip⟩, il, sv, is, kv⟩ := id hP
  (change t_P_rows A E _ [_, none] _; unfold t_P_rows; walk_at "rd")
  refine u_numbers hP hs hl fun q H1 nq s1 e1 => ?_
  walk_at "rd"
  refine lc_go walk_list (by rw [List.length_map]; omega) (fun D i acc H2 => H1 D = none ∧ Same H1 H2 ∧ ∃ ra : Int → Addr, acc = (ks.take i).map (fun n => V.ref (ra n)) ∧ ∀ n ∈ ks.take i, H2 (ra n) = some (.tup [.int n, obV (o n), sv n])) (fun D H2 hD s2 _ => ⟨hD, s2, fun _ => 0, by simp, fun n hn => by simp at hn⟩) (fun D i acc H2 hi h => .of (h.2.1 _ _ e1)) ?_ ?_
  · rintro D i x acc H2 H3 hi ha e ⟨hD, s2, ra, rfl, hra⟩ ⟨rfl, hx⟩
    rw [List.length_map] at hi
    rw [List.getElem?_map, List.getElem?_eq_getElem hi] at hx
    obtain rfl := Option.some.inj hx
    have hci : ks[i] ∈ ks := List.getElem_mem hi
    have ht := take_succ hi
    have hno : ks[i] ∉ ks.take i := fun z => by
      have nd := (hs.imp (fun h => Int.ne_of_lt h)).sublist (List.take_sublist (i + 1) ks)
      rw [ht, List.pairwise_append] at nd
      exact nd.2.2 _ z _ (by simp) rfl
    generalize ks[i] = one at *
    have s02 := s1.trans s2
    walk_at "rd"
    refine r_dgetE (sm_rd s02 il) (nK_in hci) ?_
    walk_at "rd"
    refine r_dgetE (.of (s02 _ _ is)) (nK_in hci) ?_
    walk_at "rd"
    intro t H4 nt s4 e4
    have tD : t ≠ D := fun z => by rw [z, e] at nt; cases nt
    refine lc_end ha (by omega) (s4 _ _ e) fun H5 c5 => ⟨hD, sm_chg (s2.trans s4) hD c5, fu ra one t, ?_, fun n hn => ?_⟩
    · rw [ht, List.map_append]
      show _ = _ ++ [V.ref (fu ra one t one)]
      rw [fu_eq]
      congr 1
      exact List.map_congr_left fun n hn => by rw [fu_ne fun z : n = one => hno (by rw [← z]; exact hn)]
    · rw [ht, List.mem_append, List.mem_singleton] at hn
      by_cases z : n = one
      · rw [z, fu_eq]; exact c5.2 _ _ tD e4
      · rw [fu_ne z]
        have h := hra n (hn.resolve_right z)
        exact c5.2 _ _ (ne_val h e fun z => by cases z) (s4 _ _ h)
  · rintro D acc H2 ⟨hD, s2, ra, rfl, hra⟩ e
    rw [List.length_map, List.take_of_length_le (Nat.le_refl _)] at e hra
    exact h1 D H2 (s1.trans s2) (s1.free hD) ⟨ra, e, fun n hn => ⟨sv n, hra n hn, (kv n hn).sm fun a xs z => s2 _ _ (s1 _ _ z)⟩⟩
def sp_l_text_by (A : Ad) : Sp := fun vs H Q E => ∃ c n, vs = [.int c, .int n] ∧ 0 ≤ n ∧ n ≤ 100000 ∧ ∀ l H', l.length = n.toNat → Ok l → Same H H' → Q (.str (S l)) H'
theorem u_text_by {A : Ad} {c n : Int} {H : Hp} {Q : VK} {E : XK} (h0 : 0 ≤ n) (h1 : n ≤ 100000) (h : ∀ l H', l.length = n.toNat → Ok l → Same H H' → Q (.str (S l)) H') : sp_l_text_by A [.int c, .int n] H Q E := ⟨c, n, rfl, h0, h1, h⟩
def t_l_text_by (A : Ad) (E : XK) : TS := tRet (tBM A.K "str" (rJoin A.K) (tC (.str "")) (tCons (tLc (iRng1 (tCons (tVar 1) (tNil))) (gName 2) (tYes) (tCall (sp_l_sign_by A) [] E0 (tCons (tOp rAdd3 (tVar 0) (tOp rMul (tC (.int 7)) (tOp rDiv (tVar 2) (tOp rAdd3 (tC (.int 1)) (tOp rMod (tVar 0) (tC (.int 3))))))) (tNil))) [2]) (tNil)))
theorem p_l_text_by (A : Ad) {vs : List V} {H : Hp} {Q : VK} {E : XK} (h : sp_l_text_by A vs H Q E) : t_l_text_by A E { nx := fun _ H2 => Q .non H2, rt := Q } (start ["_law_cell", "_law_size_here", "_law_k"] vs) H := by
  obtain ⟨c, n, rfl, h0, hn, h1⟩ := h
  (change t_l_text_by A E _ [_, _, none] _; unfold t_l_text_by; walk_at "rd")
  refine lc_go (walk_rng0 (n := n.toNat)) (by omega) (fun D i acc H2 => H D = none ∧ Same H H2 ∧ ∃ ls : List (List Nat), acc = ls.map (fun l => V.str (S l)) ∧ (∀ l ∈ ls, l.length = 1 ∧ Ok l) ∧ ls.length = i)
    (fun D H2 hD s2 _ => ⟨hD, s2, [], rfl, by simp, rfl⟩) (fun _ _ _ _ _ _ => trivial) ?_ ?_
  · rintro D i x acc H1 H' hi ha e ⟨hD, s1, ls, rfl, hl, rfl⟩ ⟨rfl, rfl⟩
    walk_at "rd"
    refine ⟨_, rfl, fun z hz => ?_⟩
    refine lc_end ha (by omega) e fun H5 c5 => ⟨hD, sm_chg s1 hD c5, ls ++ [[z]], by simp, ?_, by simp⟩
    intro l hl'
    rcases List.mem_append.mp hl' with h | h
    · exact hl l h
    · rw [List.mem_singleton.mp h]; exact ⟨rfl, fun c hc => by rw [List.mem_singleton.mp hc]; exact hz⟩
  · rintro D acc H1 ⟨hD, s1, ls, rfl, hl, hn⟩ e
    walk_at "rd"
    exact r_join1 hl e (by omega) fun r l1 o1 => h1 r H1 (by rw [l1, hn]) o1 s1
def sp_l_wide_change (A : Ad) : Sp := fun vs H Q E => ∃ (a b : List Nat) (w : Int), vs = [.str (S a), .str (S b), .int w] ∧ a.length ≤ 100000 ∧ b.length ≤ 100000 ∧
  ∀ (t : Addr) (H' : Hp) (i : Int) (g c : List Nat), Same H H' → H t = none → H' t = some (.tup [.int i, .str (S g), .str (S c)]) → Fits a i g → doneL a i g c = b → Q (.ref t) H'
theorem u_wide_change {A : Ad} {a b : List Nat} {w : Int} {H : Hp} {Q : VK} {E : XK} (la : a.length ≤ 100000) (lb : b.length ≤ 100000) (h : ∀ (t : Addr) (H' : Hp) (i : Int) (g c : List Nat), Same H H' → H t = none → H' t = some (.tup [.int i, .str (S g), .str (S c)]) → Fits a i g → doneL a i g c = b → Q (.ref t) H') :
    sp_l_wide_change A [.str (S a), .str (S b), .int w] H Q E := ⟨a, b, w, rfl, la, lb, h⟩
def t_l_wide_change (A : Ad) (E : XK) : TS := tSeq (tAsg (tCall (sp_l_change_of A) [] E0 (tCons (tVar 0) (tCons (tVar 1) (tNil)))) (gName 3)) (tSeq (tAsg (tOp (rIx A.K) (tVar 3) (tC (.int 0))) (gName 4)) (tCut (tIfS (tTest (tOp (rEqG A.K) (tVar 2) (tC (.int 1)))) (tAsg (tCB (rMax2) (tCons (tC (.int 0)) (tCons (tOp rSub (tVar 4) (tC (.int 2))) (tNil)))) (gName 4)) (tNext)) (tSeq (tIfS (tTest (tOp (rEqG A.K) (tVar 2) (tC (.int 2)))) (tRet (tTup (tCons (tC (.int 0)) (tCons (tVar 0) (tCons (tVar 1) (tNil)))))) (tNext)) (tRet (tTup (tCons (tVar 4) (tCons (tOp rAdd3 (tSl (rSl2 A.K) (tVar 0) (tPart (tVar 4)) (tPart (tOp (rIx A.K) (tVar 3) (tC (.int 0))))) (tOp (rIx A.K) (tVar 3) (tC (.int 1)))) (tCons (tOp rAdd3 (tSl (rSl2 A.K) (tVar 0) (tPart (tVar 4)) (tPart (tOp (rIx A.K) (tVar 3) (tC (.int 0))))) (tOp (rIx A.K) (tVar 3) (tC (.int 2)))) (tNil)))))))))
theorem p_l_wide_change (A : Ad) {vs : List V} {H : Hp} {Q : VK} {E : XK} (h : sp_l_wide_change A vs H Q E) : t_l_wide_change A E { nx := fun _ H2 => Q .non H2, rt := Q } (start ["_law_old", "_law_new", "_law_way", "_law_change", "_law_ahead"] vs) H := by
  obtain ⟨a, b, w, rfl, la, lb, h1⟩ := h
  (change t_l_wide_change A E _ [_, _, _, none, none] _; unfold t_l_wide_change; walk_at "rd")
  refine u_l_change_of (by omega) (by omega) fun t H1 nt s1 e1 => ?_
  walk_at "rd"
  have g1 := gone_len a b
  have g2 := come_len a b
  refine r_cut (fun σ' H' => ∃ m : Nat, σ' = [some (.str (S a)), some (.str (S b)), some (.int w), some (.ref t), some (.int m)] ∧ m ≤ atOf a b ∧ H' = H1) ?_ ?_
  · walk_at "rd"
    refine r_dec (fun z => ?_) fun z => ?_
    · walk_at "rd"
      exact ⟨(max 0 ((atOf a b : Int) - 2)).toNat, by rw [Int.toNat_of_nonneg (by omega)], by omega, rfl⟩
    · walk_at "rd"
      exact ⟨_, rfl, Nat.le_refl _, rfl⟩
  rintro σ' H2 ⟨m, rfl, hm, rfl⟩
  walk_at "rd"
  refine r_dec (fun z => ?_) fun z => ?_
  · walk_at "rd"
    intro t2 H3 nt2 s3 e3
    obtain ⟨f1, f2⟩ := fits_all a b
    exact h1 t2 H3 0 a b (s1.trans s3) (s1.free nt2) e3 f1 f2
  · walk_at "rd"
    have q1 := cutL_len a (some ((m : Nat) : Int)) (some ((atOf a b : Nat) : Int))
    walk_at "rd"
    intro t2 H3 nt2 s3 e3
    obtain ⟨f1, f2⟩ := wide_fits m hm
    exact h1 t2 H3 _ _ _ (s1.trans s3) (s1.free nt2) e3 f1 f2
def sp_l_longest (A : Ad) : Sp := fun vs H Q E => ∃ (d : Addr) (ks : List Int) (o : Int → Option Int) (k : Int → Kept) (tx : Int → List Nat), vs = [.ref d] ∧ KeptAt H d ks o k ∧ Gd ks o k tx ∧ 0 < ks.length ∧
  ∀ (m : Int) (H' : Hp), (∀ n c, Ch (lvO ks o) n c → (c.length : Int) - 1 ≤ m) → (∃ n c, n ∈ ks ∧ Ch (lvO ks o) n c ∧ m = (c.length : Int) - 1) → Same H H' → Q (.int m) H'
def t_l_longest (A : Ad) (E : XK) : TS := tRet (tCB (rMax A.K) (tCons (tLockE (tLc (iKeys (tVar 0)) (gName 1) (tYes) (tOp rSub (tCB (rLenG A.K) (tCons (tCall (sp_l_chain A) [] E0 (tCons (tVar 0) (tCons (tVar 1) (tNil)))) (tNil))) (tC (.int 1))) [1])) (tNil)))
theorem p_l_longest (A : Ad) {vs : List V} {H : Hp} {Q : VK} {E : XK} (h : sp_l_longest A vs H Q E) : t_l_longest A E { nx := fun _ H2 => Q .non H2, rt := Q } (start ["_law_kept", "_law_one"] vs) H := by
  obtain ⟨d, ks, o, k, tx, rfl, hK, g, hpos, h1⟩ := h
  obtain ⟨ka, ed, hka⟩ := id hK
  have kl := g.len
  (change t_l_longest A E _ [_, none] _; unfold t_l_longest; walk_at "rd")
  refine r_lockE ed fun od H1 c1 => ?_
  walk_at "rd"
  refine ⟨d, od, rfl, .inl ⟨_, c1.1, ?_⟩⟩
  have hK1 : KeptR H1 d ks o k := ⟨ka, .inr ⟨_, c1.1⟩, fun n hn => by
    obtain ⟨kv, e, h⟩ := hka n hn
    have tup1 : ∀ a xs, H a = some (.tup xs) → H1 a = some (.tup xs) := fun a xs z => c1.2 _ _ (ne_val z ed fun z => by cases z) z
    exact ⟨kv, tup1 _ _ e, h.sm tup1⟩⟩
  refine lc_go walk_keys (by rw [nK_len]; omega) (fun D i acc H2 => H1 D = none ∧ Same H1 H2 ∧ ∃ ls : List Int, acc = ls.map V.int ∧ (∀ n ∈ ks.take i, ∃ c, Ch (lvO ks o) n c ∧ (c.length : Int) - 1 ∈ ls) ∧ ∀ l ∈ ls, ∃ n c, n ∈ ks ∧ Ch (lvO ks o) n c ∧ l = (c.length : Int) - 1) (fun D H2 hD s2 _ => ⟨hD, s2, [], rfl, (fun n hn => by simp at hn), fun l hl => by simp at hl⟩) (fun D i acc H2 hi h => h.2.1 _ _ c1.1) ?_ ?_
  · rintro D i x acc H2 H3 hi ha e ⟨hD, s2, ls, rfl, hls, hls2⟩ ⟨rfl, kk, v, hk, rfl⟩
    rw [nK_len] at hi
    rw [nK_at hi] at hk
    cases hk
    have hci : ks[i] ∈ ks := List.getElem_mem hi
    have ht := take_succ hi
    show gName 1 (.int ks[i]) _ _ _
    generalize ks[i] = one at *
    obtain ⟨c, hc, hcl⟩ := g.ch hci
    obtain ⟨ka, hR, hka⟩ := id hK1
    walk_at "rd"
    refine u_l_chain (k := k) ⟨ka, sm_rd s2 hR, fun n hn => by obtain ⟨kv, e, h⟩ := hka n hn; exact ⟨kv, s2 _ _ e, h.sm fun _ _ z => s2 _ _ z⟩⟩ hc (by omega) fun q H4 nq s4 e4 => ?_
    walk_at "rd"
    rw [List.length_map]
    refine lc_end ha (by omega) (s4 _ _ e) fun H5 c5 => ⟨hD, sm_chg (s2.trans s4) hD c5, ls ++ [(c.length : Int) - 1], by rw [List.map_append]; rfl, fun n hn => ?_, fun l hl => ?_⟩
    · rw [ht, List.mem_append, List.mem_singleton] at hn
      rcases hn with hn | rfl
      · obtain ⟨c', h1, h2⟩ := hls n hn
        exact ⟨c', h1, List.mem_append_left _ h2⟩
      · exact ⟨c, hc, by simp⟩
    · rcases List.mem_append.mp hl with q | q
      · exact hls2 l q
      · rw [List.mem_singleton] at q
        exact ⟨one, c, hci, hc, q⟩
  · rintro D acc H2 ⟨hD, s2, ls, rfl, hls, hls2⟩ e
    rw [nK_len, List.take_of_length_le (Nat.le_refl _)] at hls
    have nd : D ≠ d := fun z => by rw [z, c1.1] at hD; cases hD
    refine un (s2 _ _ c1.1) fun H3 c3 => ?_
    have s3 := same_lock ed c1 s2 c3
    have e3 := c3.2 _ _ nd e
    walk_at "rd"
    obtain ⟨n0, hn0⟩ := List.exists_mem_of_ne_nil ks (by intro z; rw [z] at hpos; cases hpos)
    obtain ⟨c0, _, hm0⟩ := hls n0 hn0
    refine ⟨D, ls, rfl, .of e3, List.length_pos_of_mem hm0, fun m hm hall => h1 m H3 (fun n c hc => ?_) (hls2 m hm) s3⟩
    have hn : n ∈ ks := by obtain ⟨r, rfl⟩ := hc.head; exact ch_keys hc n List.mem_cons_self
    obtain ⟨c', hc', hm'⟩ := hls n hn
    rw [hc.inj hc']
    exact hall _ hm'
def sp_l_kinds (A : Ad) : Sp := fun vs H Q E => ∃ (r : Addr) (n : Int) (o : Option Int) (k : Kept) (kv : V), vs = [.ref r] ∧ H r = some (.tup [.int n, obV o, kv]) ∧ KvAt H kv k ∧ (o = none → ∃ t, k = .tx t) ∧ (∀ b, o = some b → ∃ i g c, k = .ch i g c) ∧ Q (.bl true) H
def t_l_kinds (A : Ad) (E : XK) : TS := tSeq (tIfS (tOr (tNot (tB (tCB (rIsi A.K) (tCons (tVar 0) (tCons (tC (.ty "tuple")) (tNil)))))) (tOr (tTest (tOp (rNeG A.K) (tCB (rLenG A.K) (tCons (tVar 0) (tNil))) (tC (.int 3)))) (tNot (tB (tCall (sp_l_whole A) [] E0 (tCons (tOp (rIx A.K) (tVar 0) (tC (.int 0))) (tNil))))))) (tRet (tC (.bl false))) (tNext)) (tSeq (tIfS (tB (tIsN (tOp (rIx A.K) (tVar 0) (tC (.int 1))))) (tRet (tCB (rIsi A.K) (tCons (tOp (rIx A.K) (tVar 0) (tC (.int 2))) (tCons (tC (.ty "str")) (tNil))))) (tNext)) (tSeq (tIfS (tOr (tNot (tB (tCall (sp_l_whole A) [] E0 (tCons (tOp (rIx A.K) (tVar 0) (tC (.int 1))) (tNil))))) (tOr (tNot (tB (tCB (rIsi A.K) (tCons (tOp (rIx A.K) (tVar 0) (tC (.int 2))) (tCons (tC (.ty "tuple")) (tNil)))))) (tTest (tOp (rNeG A.K) (tCB (rLenG A.K) (tCons (tOp (rIx A.K) (tVar 0) (tC (.int 2))) (tNil))) (tC (.int 3)))))) (tRet (tC (.bl false))) (tNext)) (tRet (tAndV (tCall (sp_l_whole A) [] E0 (tCons (tOp (rIx A.K) (tOp (rIx A.K) (tVar 0) (tC (.int 2))) (tC (.int 0))) (tNil))) (tAndV (tCB (rIsi A.K) (tCons (tOp (rIx A.K) (tOp (rIx A.K) (tVar 0) (tC (.int 2))) (tC (.int 1))) (tCons (tC (.ty "str")) (tNil)))) (tCB (rIsi A.K) (tCons (tOp (rIx A.K) (tOp (rIx A.K) (tVar 0) (tC (.int 2))) (tC (.int 2))) (tCons (tC (.ty "str")) (tNil)))))))))
theorem p_l_kinds (A : Ad) {vs : List V} {H : Hp} {Q : VK} {E : XK} (h : sp_l_kinds A vs H Q E) : t_l_kinds A E { nx := fun _ H2 => Q .non H2, rt := Q } (start ["_law_row"] vs) H := by
  obtain ⟨r, n, o, k, kv, rfl, hr, hk, h0, h2, h1⟩ := h
  cases o with
  | none =>
    obtain ⟨t, rfl⟩ := h0 rfl
    rw [show kv = .str (S t) from hk] at hr
    (change t_l_kinds A E _ [_] _; unfold t_l_kinds; walk_at "rd")
    refine r_ndec (fun z => absurd rfl z) fun _ => ?_
    walk_at "rd"
    refine ⟨_, rfl, ?_⟩
    walk_at "rd"
    refine r_dec (fun _ => ?_) fun z => absurd rfl z
    walk_at "rd"
    exact h1
  | some b =>
    obtain ⟨i, g, c, rfl⟩ := h2 b rfl
    obtain ⟨t, rfl, ht⟩ := hk
    (change t_l_kinds A E _ [_] _; unfold t_l_kinds; walk_at "rd")
    refine r_ndec (fun z => absurd rfl z) fun _ => ?_
    walk_at "rd"
    refine ⟨_, rfl, ?_⟩
    walk_at "rd"
    refine r_dec (fun z => V.noConfusion z) fun _ => ?_
    walk_at "rd"
    refine ⟨_, rfl, ?_⟩
    walk_at "rd"
    refine r_ndec (fun z => absurd rfl z) fun _ => ?_
    walk_at "rd"
    refine ⟨_, rfl, ?_⟩
    walk_at "rd"
    exact h1
def sp_l_cells (A : Ad) : Sp := fun vs H Q E => ∃ (a : Addr) (ns : List Int) (st m : Int), vs = [.ref a, .int st, .int m] ∧ SqL A.K H a (ns.map V.int) ∧ ns.length ≤ 63 ∧ 0 ≤ st ∧ 0 ≤ m ∧ m ≤ 1000 ∧
  ∀ (c : List Int) (p : Addr) (H' : Hp), c.length = 3 * m.toNat → Same H H' → H p = none → H' p = some (.lst (c.map V.int)) → Q (.ref p) H'
def t_l_cells (A : Ad) (E : XK) : TS := tRet (tLc (iRng1 (tCons (tOp rMul (tC (.int 3)) (tVar 2)) (tNil))) (gName 3) (tYes) (tCall (sp_l_cell_at A) [] E0 (tCons (tVar 0) (tCons (tOp rAdd3 (tVar 1) (tVar 3)) (tNil)))) [3])
theorem p_l_cells (A : Ad) {vs : List V} {H : Hp} {Q : VK} {E : XK} (h : sp_l_cells A vs H Q E) : t_l_cells A E { nx := fun _ H2 => Q .non H2, rt := Q } (start ["_law_script", "_law_start", "_law_many", "_law_k"] vs) H := by
  obtain ⟨a, ns, st, m, rfl, hS, hl, h0, m0, m1, h1⟩ := h
  (change t_l_cells A E _ [_, _, _, none] _; unfold t_l_cells; walk_at "rd")
  refine lc_go (walk_rng0 (n := (3 * m).toNat)) (by omega) (fun D i acc H2 => H D = none ∧ Same H H2 ∧ ∃ c : List Int, acc = c.map V.int ∧ c.length = i) (fun D H2 hD s2 _ => ⟨hD, s2, [], rfl, rfl⟩) (fun _ _ _ _ _ _ => trivial) ?_ ?_
  · rintro D i x acc H2 H3 hi ha e ⟨hD, s2, c, rfl, hc⟩ ⟨rfl, rfl⟩
    walk_at "rd"
    refine lc_end ha (by omega) e fun H5 c5 => ⟨hD, sm_chg s2 hD c5, c ++ [_], by rw [List.map_append]; rfl, by rw [List.length_append, hc]; rfl⟩
  · rintro D acc H2 ⟨hD, s2, c, rfl, hc⟩ e
    exact h1 c D H2 (by omega) s2 hD e
def sp_l_far (A : Ad) : Sp := fun vs H Q E => ∃ (d : Addr) (n : Int) (ks : List Int) (o : Int → Option Int) (k : Int → Kept) (tx : Int → List Nat), vs = [.ref d, .int n] ∧ KeptAt H d ks o k ∧ Gd ks o k tx ∧ n ∈ ks ∧
  ∀ (r : Nat) (H' : Hp), RS (lvO ks o) n r → Same H H' → Q (.int r) H'
theorem u_far {A : Ad} {d : Addr} {n : Int} {ks : List Int} {o : Int → Option Int} {k : Int → Kept} {tx : Int → List Nat} {H : Hp} {Q : VK} {E : XK} (h : KeptAt H d ks o k) (g : Gd ks o k tx) (hn : n ∈ ks) (q : ∀ (r : Nat) (H' : Hp), RS (lvO ks o) n r → Same H H' → Q (.int r) H') : sp_l_far A [.ref d, .int n] H Q E := ⟨d, n, ks, o, k, tx, rfl, h, g, hn, q⟩
theorem last_of_share {lv : List (Int × Option Int)} {n m x : Int} {c d : List Int} (h : Ch lv n c) (g : Ch lv m d) (h1 : x ∈ c) (h2 : x ∈ d) : lastOf c = lastOf d := by
  obtain ⟨p, s, e, h3⟩ := h.mem h1
  obtain ⟨p2, s2, e2, h4⟩ := g.mem h2
  rw [← h.last_of_mem h1 h3, ← g.last_of_mem h2 h4, h3.inj h4]
theorem btw_at {d : List Int} : ∀ {c : List Int} {i : Nat} {x : Int}, (∀ j y, j < i → c[j]? = some y → y ∉ d) → c[i]? = some x → x ∈ d → btw c d = i + d.idxOf x
  | [], i, x, _, h, _ => by simp at h
  | a :: r, 0, x, _, h, hx => by
    cases h
    show (if a ∈ d then _ else _) = _
    rw [if_pos hx, Nat.zero_add]
  | a :: r, i + 1, x, hn, h, hx => by
    show (if a ∈ d then _ else btw r d + 1) = _
    rw [if_neg (hn 0 a (Nat.succ_pos _) rfl), btw_at (i := i) (x := x) (fun j y hj e => hn (j + 1) y (by omega) (by simpa using e)) (by simpa using h) hx]
    omega
def t_l_far (A : Ad) (E : XK) : TS := tSeq (tAsg (tCall (sp_l_chain A) [] E0 (tCons (tVar 0) (tCons (tVar 1) (tNil)))) (gName 2)) (tSeq (tAsg (tC (.int 0)) (gName 3)) (tSeq (tLock (tFor (iKeys (tVar 0)) (gName 4) (tSeq (tAsg (tCall (sp_l_chain A) [] E0 (tCons (tVar 0) (tCons (tVar 4) (tNil)))) (gName 5)) (tFor (iRng1 (tCons (tCB (rLenG A.K) (tCons (tVar 5) (tNil))) (tNil))) (gName 6) (tIfS (tTest (tOp (rIn A.K false) (tOp (rIx A.K) (tVar 5) (tVar 6)) (tVar 2))) (tSeq (tAsg (tCB (rMax2) (tCons (tVar 3) (tCons (tOp rAdd3 (tVar 6) (tBM A.K "list" (rIndex A.K) (tVar 2) (tCons (tOp (rIx A.K) (tVar 5) (tVar 6)) (tNil)))) (tNil)))) (gName 3)) (tBreak)) (tNext)))))) (tRet (tVar 3))))
theorem p_l_far (A : Ad) {vs : List V} {H : Hp} {Q : VK} {E : XK} (h : sp_l_far A vs H Q E) : t_l_far A E { nx := fun _ H2 => Q .non H2, rt := Q } (start ["_law_kept", "_law_number", "_law_mine", "_law_far_here", "_law_one", "_law_chain_here", "_law_k"] vs) H := by
  obtain ⟨d, n, ks, o, k, tx, rfl, hK, g, hn, h1⟩ := h
  obtain ⟨ka, ed, hka⟩ := id hK
  have kl := g.len
  obtain ⟨mc, hmc, hml⟩ := g.ch hn
  (change t_l_far A E _ [_, _, none, none, none, none, none] _; unfold t_l_far; walk_at "rd")
  refine u_l_chain hK.r hmc (by omega) fun pm H0 npm s0 em => ?_
  walk_at "rd"
  have ed0 := s0 _ _ ed
  refine r_lock ed0 fun od H1 c1 => ?_
  have pmd : pm ≠ d := ne_val em ed0 fun z => by cases z
  have em1 := c1.2 _ _ pmd em
  walk_at "rd"
  refine ⟨d, od, rfl, .inl ⟨_, c1.1, ?_⟩⟩
  have hK1 : ∀ {X : Hp}, Same H1 X → KeptR X d ks o k := fun {X} sx => ⟨ka, .inr ⟨_, sx _ _ c1.1⟩, fun n hn => by
    obtain ⟨kv, e, h⟩ := hka n hn
    have tup1 : ∀ a xs, H a = some (.tup xs) → X a = some (.tup xs) := fun a xs z => sx _ _ (c1.2 _ _ (ne_val (s0 _ _ z) ed0 fun z => by cases z) (s0 _ _ z))
    exact ⟨kv, tup1 _ _ e, h.sm tup1⟩⟩
  refine for_go walk_keys (fun i σ H2 => ∃ (r : Nat) (y4 y5 y6 : Option V), σ = [some (.ref d), some (.int n), some (.ref pm), some (.int r), y4, y5, y6] ∧ Same H1 H2 ∧ (∀ x c, x ∈ ks.take i → Ch (lvO ks o) x c → lastOf c = lastOf mc → btw c mc ≤ r) ∧ (r = 0 ∨ ∃ x c, Ch (lvO ks o) x c ∧ lastOf c = lastOf mc ∧ btw c mc = r))
    ⟨0, none, none, none, rfl, fun _ _ z => z, (fun x c hx => by simp at hx), .inl rfl⟩ (fun i σ H2 hi ⟨_, _, _, _, _, s, _⟩ => s _ _ c1.1) ?_ ?_
  · rintro i x σ H2 H3 hi ⟨r, y4, y5, y6, rfl, s2, hall, hex⟩ ⟨rfl, kk, v, hk, rfl⟩
    rw [nK_len] at hi
    rw [nK_at hi] at hk
    cases hk
    have hci : ks[i] ∈ ks := List.getElem_mem hi
    have ht := take_succ hi
    show gName 4 (.int ks[i]) _ _ _
    rw [ht]
    generalize ks[i] = one at *
    obtain ⟨c, hc, hcl⟩ := g.ch hci
    walk_at "rd"
    refine u_l_chain (hK1 s2) hc (by omega) fun q H4 nq s4 e4 => ?_
    walk_at "rd"
    rw [List.length_map]
    have em4 := s4 _ _ (s2 _ _ em1)
    walk_at "rd"
    have fin : ∀ (r' : Nat) (y6 : Option V), (∀ c', Ch (lvO ks o) one c' → lastOf c' = lastOf mc → btw c' mc ≤ r') → r ≤ r' → (r' = r ∨ ∃ x c, Ch (lvO ks o) x c ∧ lastOf c = lastOf mc ∧ btw c mc = r') →
        ∃ (r : Nat) (y4 y5 y6' : Option V), [some (.ref d), some (.int n), some (.ref pm), some (.int r'), some (.int one), some (.ref q), y6] = [some (.ref d), some (.int n), some (.ref pm), some (.int r), y4, y5, y6'] ∧ Same H1 H4 ∧ (∀ x c, x ∈ ks.take i ++ [one] → Ch (lvO ks o) x c → lastOf c = lastOf mc → btw c mc ≤ r) ∧ (r = 0 ∨ ∃ x c, Ch (lvO ks o) x c ∧ lastOf c = lastOf mc ∧ btw c mc = r) := fun r' y6 h1 h2 h3 => by
      refine ⟨r', _, _, _, rfl, s2.trans s4, fun x c' hx hc' hl' => ?_, ?_⟩
      · rcases List.mem_append.mp hx with hx | hx
        · have := hall x c' hx hc' hl'; omega
        · rw [List.mem_singleton] at hx
          subst hx
          exact h1 c' hc' hl'
      · rcases h3 with rfl | h3
        · exact hex
        · exact .inr h3
    refine for_go (walk_rng0 (n := (c.length : Int).toNat)) (fun j σ H5 => ∃ y6 : Option V, σ = [some (.ref d), some (.int n), some (.ref pm), some (.int r), some (.int one), some (.ref q), y6] ∧ H5 = H4 ∧ ∀ m y, m < j → c[m]? = some y → y ∉ mc) ⟨y6, rfl, rfl, fun m y hm => absurd hm (Nat.not_lt_zero m)⟩ (fun _ _ _ _ _ => trivial) ?_ ?_
    · rintro j x σ H5 H6 hj ⟨y6, rfl, rfl, hno⟩ ⟨rfl, rfl⟩
      have hjl : j < c.length := by omega
      have ej : c[j]? = some c[j] := List.getElem?_eq_getElem hjl
      have hat : atI (c.map V.int) (j : Int) = some (.int c[j]) := atI_nat (by rw [List.getElem?_map, ej]; rfl)
      have hcm : c[j] ∈ c := List.getElem_mem hjl
      generalize c[j] = w at *
      walk_at "rd"
      refine r_ixL (.of e4) hat ?_
      walk_at "rd"
      refine r_inN (.of em4) ?_
      walk_at "rd"
      refine r_dec (fun z => ?_) fun z => ?_
      · walk_at "rd"
        refine r_ixL (.of e4) hat ?_
        walk_at "rd"
        refine r_idxN (.of em4) z ?_
        walk_at "rd"
        have hb : btw c mc = j + mc.idxOf w := btw_at hno ej z
        have hl : lastOf c = lastOf mc := last_of_share hc hmc hcm z
        rw [show (max (r : Int) ((j : Int) + ((mc.idxOf w : Nat) : Int))) = ((max r (j + mc.idxOf w) : Nat) : Int) by omega]
        refine fin (max r (j + mc.idxOf w)) _ (fun c' hc' hl' => by rw [hc'.inj hc, hb]; omega) (by omega) ?_
        by_cases w1 : j + mc.idxOf w ≤ r
        · exact .inl (by omega)
        · exact .inr ⟨one, c, hc, hl, by rw [hb]; omega⟩
      · walk_at "rd"
        refine ⟨_, rfl, rfl, fun m y hm hy => ?_⟩
        by_cases e : m = j
        · subst e; rw [ej] at hy; cases hy; exact z
        · exact hno m y (by omega) hy
    · rintro σ H5 ⟨y6, rfl, rfl, hno⟩
      refine fin r y6 (fun c' hc' hl' => ?_) (Nat.le_refl _) (.inl rfl)
      exfalso
      rw [hc'.inj hc] at hl'
      have hlm := hc.last.1
      obtain ⟨m, hm, em⟩ := List.getElem_of_mem hlm
      exact hno m _ (by omega) (by rw [List.getElem?_eq_getElem hm, em]) (by rw [hl']; exact hmc.last.1)
  · rintro σ H2 ⟨r, y4, y5, y6, rfl, s2, hall, hex⟩
    rw [nK_len, List.take_of_length_le (Nat.le_refl _)] at hall
    refine un (s2 _ _ c1.1) fun H3 c3 => ?_
    walk_at "rd"
    refine h1 r H3 ⟨mc, hmc, ?_, fun x j hx => ?_⟩ (s0.trans (same_lock ed0 c1 s2 c3))
    · rcases hex with rfl | ⟨x, c, hc, hl, hb⟩
      · exact ⟨n, mc, hmc, rfl, btw_self hmc⟩
      · exact ⟨x, c, hc, hl, hb⟩
    · obtain ⟨c, hc, hl, rfl⟩ := hx
      have hxk : x ∈ ks := by obtain ⟨s, rfl⟩ := hc.head; exact ch_keys hc x List.mem_cons_self
      exact hall x c hxk hc hl
def sp_l_turned (A : Ad) : Sp := fun vs H Q E => ∃ (d : Addr) (n : Int) (ks : List Int) (o : Int → Option Int) (k : Int → Kept) (tx : Int → List Nat) (c : List Int), vs = [.ref d, .int n, .str (S (tx n))] ∧ KeptAt H d ks o k ∧ Gd ks o k tx ∧ n ∈ ks ∧ Ch (lvO ks o) n c ∧
  ∀ (d' : Addr) (H' : Hp), Same H H' → H d' = none → KeptAt H' d' ks (turnO c o) (fu (turnP c k) n (.tx (tx n))) → Q (.ref d') H'
theorem u_turned {A : Ad} {d : Addr} {n : Int} {ks : List Int} {o : Int → Option Int} {k : Int → Kept} {tx : Int → List Nat} {c : List Int} {H : Hp} {Q : VK} {E : XK} (h : KeptAt H d ks o k) (g : Gd ks o k tx) (hn : n ∈ ks) (hc : Ch (lvO ks o) n c)
    (q : ∀ (d' : Addr) (H' : Hp), Same H H' → H d' = none → KeptAt H' d' ks (turnO c o) (fu (turnP c k) n (.tx (tx n))) → Q (.ref d') H') : sp_l_turned A [.ref d, .int n, .str (S (tx n))] H Q E := ⟨d, n, ks, o, k, tx, c, rfl, h, g, hn, hc, q⟩
def t_l_turned (A : Ad) (E : XK) : TS := tSeq (tAsg (tCall (sp_l_chain A) [] E0 (tCons (tVar 0) (tCons (tVar 1) (tNil)))) (gName 3)) (tSeq (tAsg (tCB (rDictD) (tCons (tVar 0) (tNil))) (gName 4)) (tSeq (tFor (iRng2 (tCons (tC (.int 1)) (tCons (tCB (rLenG A.K) (tCons (tVar 3) (tNil))) (tNil)))) (gName 5) (tSeq (tAsg (tOp (rIx A.K) (tDGet (tVar 0) (tOp (rIx A.K) (tVar 3) (tOp rSub (tVar 5) (tC (.int 1))))) (tC (.int 1))) (gName 6)) (sDPut (tVar 4) (tOp (rIx A.K) (tVar 3) (tVar 5)) (tTup (tCons (tOp (rIx A.K) (tVar 3) (tOp rSub (tVar 5) (tC (.int 1)))) (tCons (tTup (tCons (tOp (rIx A.K) (tVar 6) (tC (.int 0))) (tCons (tOp (rIx A.K) (tVar 6) (tC (.int 2))) (tCons (tOp (rIx A.K) (tVar 6) (tC (.int 1))) (tNil))))) (tNil))))))) (tSeq (sDPut (tVar 4) (tVar 1) (tTup (tCons (tC .non) (tCons (tVar 2) (tNil))))) (tRet (tVar 4)))))
theorem p_l_turned (A : Ad) {vs : List V} {H : Hp} {Q : VK} {E : XK} (h : sp_l_turned A vs H Q E) : t_l_turned A E { nx := fun _ H2 => Q .non H2, rt := Q } (start ["_law_kept", "_law_number", "_law_signs", "_law_chain_here", "_law_found", "_law_k", "_law_change"] vs) H := by
  obtain ⟨d, n, ks, o, k, tx, c, rfl, hK, g, hn, hc, h1⟩ := h
  have hcl : c.length ≤ 1000 := by have := hc.len; rw [len_lvO] at this; have := g.len; omega
  have c0 : 0 < c.length := by obtain ⟨r, rfl⟩ := hc.head; exact Nat.succ_pos _
  have hd0 : c[0]? = some n := by obtain ⟨r, rfl⟩ := hc.head; rfl
  have nd := hc.nodup
  have gl := g.len
  (change t_l_turned A E _ [_, _, _, none, none, none, none] _; unfold t_l_turned; walk_at "rd")
  refine u_l_chain hK.r hc (by omega) fun q H1 nq s1 e1 => ?_
  have hK1 := hK.sm s1
  obtain ⟨ka, ed, hka⟩ := id hK1
  walk_at "rd"
  refine r_dictD (.of ed) fun d' H2 nd' s2 e2 => ?_
  walk_at "rd"
  rw [List.length_map]
  walk_at "rd"
  have hK2 := hK1.sm s2
  have nd0 : H d' = none := s1.free nd'
  have hq : H2 q = some (.lst (c.map V.int)) := s2 _ _ e1
  have dd : d ≠ d' := fun z => by rw [← z, ed] at nd'; cases nd'
  have qd : q ≠ d' := fun z => by rw [← z, e1] at nd'; cases nd'
  rw [show ((c.length : Int) - 1).toNat = c.length - 1 by omega]
  refine for_go (walk_rng (n := c.length - 1)) (fun i σ H3 => ∃ y5 y6 : Option V, σ = [some (.ref d), some (.int n), some (.str (S (tx n))), some (.ref q), some (.ref d'), y5, y6] ∧ Same H H3 ∧ H3 q = some (.lst (c.map V.int)) ∧ KeptAt H3 d ks o k ∧
      KeptAt H3 d' ks (fun x => if x ∈ (c.take (i + 1)).tail then prv c x else o x) (fun x => if x ∈ (c.take (i + 1)).tail then turnP c k x else k x))
    ⟨none, none, rfl, s1.trans s2, hq, hK2, ?_⟩ (fun _ _ _ _ _ => trivial) ?_ ?_
  · obtain ⟨r, rfl⟩ := hc.head
    have e : ((n :: r).take (0 + 1)).tail = [] := rfl
    rw [e]
    refine ⟨ka, e2, fun m hm => ?_⟩
    show ∃ kv, H2 (ka m) = some (.tup [obV (if m ∈ [] then prv (n :: r) m else o m), kv]) ∧ KvAt H2 kv (if m ∈ [] then turnP (n :: r) k m else k m)
    rw [if_neg List.not_mem_nil, if_neg List.not_mem_nil]
    obtain ⟨kv, h2, h3⟩ := hka m hm
    exact ⟨kv, s2 _ _ h2, h3.sm fun _ _ z => s2 _ _ z⟩
  · rintro i x σ H3 H4 hi ⟨y5, y6, rfl, s3, eq3, hK3, hD3⟩ ⟨rfl, rfl⟩
    have li : i + 1 < c.length := by omega
    have lj : i < c.length := by omega
    have ei : c[i + 1]? = some c[i + 1] := List.getElem?_eq_getElem li
    have ej : c[i]? = some c[i] := List.getElem?_eq_getElem lj
    have hat := hc.at _ _ ej
    rw [ei] at hat
    have hprv : prv c c[i + 1] = some c[i] := prv_at nd ej ei
    have hxm := List.getElem_mem li
    have hym := List.getElem_mem lj
    have htk : (c.take (i + 1 + 1)).tail = (c.take (i + 1)).tail ++ [c[i + 1]] := by
      rw [take_succ li]
      obtain ⟨r, rfl⟩ := hc.head
      rfl
    show gName 5 (V.int (1 + (i : Int))) _ _ _
    rw [show (1 + (i : Int)) = ((i + 1 : Nat) : Int) by omega, htk]
    have a1 : atI (c.map V.int) ((i + 1 : Nat) : Int) = some (.int c[i + 1]) := atI_nat (by rw [List.getElem?_map, ei]; rfl)
    have a2 : atI (c.map V.int) (((i + 1 : Nat) : Int) - 1) = some (.int c[i]) := by
      rw [show (((i + 1 : Nat) : Int) - 1) = ((i : Nat) : Int) by omega]
      exact atI_nat (by rw [List.getElem?_map, ej]; rfl)
    generalize c[i + 1] = one at *
    generalize c[i] = prev at *
    obtain ⟨hyk, hyo⟩ := look_inv hat
    have hxk := ch_keys hc _ hxm
    obtain ⟨j, gg, cc, hk, _, _, t1, t2⟩ := g.kept hyk hyo
    obtain ⟨ka3, ed3, hka3⟩ := id hK3
    obtain ⟨kv, et, hkv⟩ := hka3 prev hyk
    rw [hk] at hkv
    obtain ⟨t, rfl, eh⟩ := hkv
    walk_at "rd"
    refine r_ixL (.of eq3) a2 ?_
    refine r_dgetE (.of ed3) (nK_in hyk) ?_
    walk_at "rd"
    refine r_ixL (.of eq3) a2 ?_
    walk_at "rd"
    intro t1 H5 nt1 s5 e5
    walk_at "rd"
    intro t2 H6 nt2 s6 e6
    walk_at "rd"
    refine r_ixL (.of (s6 _ _ (s5 _ _ eq3))) a1 ?_
    have s36 := s5.trans s6
    obtain ⟨kvs, ek, lk, put⟩ := (hD3.sm s36).put (n := one) (b := some prev) (kv := .ref t1) (kk := .ch j cc gg) e6 ⟨t1, rfl, s6 _ _ e5⟩
    refine r_dputE ek (szl (by rw [lk]; omega)) fun H7 c7 => ?_
    have hD7 := put H7 c7
    rw [addK_in hxk] at hD7
    have tup7 : ∀ a xs, H6 a = some (.tup xs) → H7 a = some (.tup xs) := fun a xs z => c7.2 _ _ (ne_val z ek fun z => by cases z) z
    refine ⟨_, _, rfl, sm_chg (s3.trans s36) nd0 c7, c7.2 _ _ qd (s36 _ _ eq3), (hK3.sm s36).mv (fun _ z => c7.2 _ _ dd z) tup7, ?_⟩
    have e1 : (fu (fun x => if x ∈ (c.take (i + 1)).tail then prv c x else o x) one (some prev)) = fun x => if x ∈ (c.take (i + 1)).tail ++ [one] then prv c x else o x := funext fun x => by
      by_cases e : x = one
      · rw [e, fu_eq, if_pos (by simp), hprv]
      · rw [fu_ne e]
        by_cases h : x ∈ (c.take (i + 1)).tail
        · rw [if_pos h, if_pos (List.mem_append_left _ h)]
        · rw [if_neg h, if_neg fun z => (List.mem_append.mp z).elim h fun z => e (List.mem_singleton.mp z)]
    have e2 : (fu (fun x => if x ∈ (c.take (i + 1)).tail then turnP c k x else k x) one (.ch j cc gg)) = fun x => if x ∈ (c.take (i + 1)).tail ++ [one] then turnP c k x else k x := funext fun x => by
      by_cases e : x = one
      · rw [e, fu_eq, if_pos (by simp)]
        unfold turnP
        rw [hprv]
        show _ = turnK (k prev)
        rw [hk]
        rfl
      · rw [fu_ne e]
        by_cases h : x ∈ (c.take (i + 1)).tail
        · rw [if_pos h, if_pos (List.mem_append_left _ h)]
        · rw [if_neg h, if_neg fun z => (List.mem_append.mp z).elim h fun z => e (List.mem_singleton.mp z)]
    rw [e1, e2] at hD7
    exact hD7
  · rintro σ H3 ⟨y5, y6, rfl, s3, eq3, hK3, hD3⟩
    rw [show c.length - 1 + 1 = c.length by omega, List.take_of_length_le (Nat.le_refl _)] at hD3
    walk_at "rd"
    intro t H4 nt s4 e4
    walk_at "rd"
    obtain ⟨kvs, ek, lk, put⟩ := (hD3.sm s4).put (n := n) (b := none) (kv := .str (S (tx n))) (kk := .tx (tx n)) e4 rfl
    refine r_dputE ek (szl (by rw [lk]; omega)) fun H5 c5 => ?_
    have hD5 := put H5 c5
    rw [addK_in hn] at hD5
    walk_at "rd"
    refine h1 d' H5 (sm_chg (s3.trans s4) nd0 c5) nd0 ?_
    have hnt : n ∉ c.tail := fun z => by
      obtain ⟨r, rfl⟩ := hc.head
      rw [List.nodup_cons] at nd
      exact nd.1 z
    have hcm : ∀ m, m ≠ n → (m ∈ c.tail ↔ m ∈ c) := fun m e => by
      obtain ⟨r, rfl⟩ := hc.head
      exact ⟨fun z => List.mem_cons_of_mem _ z, fun z => (List.mem_cons.mp z).resolve_left e⟩
    have e1 : (fu (fun x => if x ∈ c.tail then prv c x else o x) n none) = turnO c o := funext fun x => by
      unfold turnO
      by_cases e : x = n
      · subst e
        rw [fu_eq, if_pos (List.mem_of_getElem? hd0), prv_none hnt]
      · rw [fu_ne e]
        by_cases e2 : x ∈ c
        · rw [if_pos e2, if_pos ((hcm x e).mpr e2)]
        · rw [if_neg e2, if_neg fun z => e2 ((hcm x e).mp z)]
    have e2 : (fu (fun x => if x ∈ c.tail then turnP c k x else k x) n (.tx (tx n))) = fu (turnP c k) n (.tx (tx n)) := funext fun x => by
      by_cases e : x = n
      · rw [e, fu_eq, fu_eq]
      · rw [fu_ne e, fu_ne e]
        by_cases e2 : x ∈ c.tail
        · rw [if_pos e2]
        · rw [if_neg e2]
          unfold turnP
          rw [prv_none e2]
    rw [e1, e2] at hD5
    exact hD5
def sp_middle (A : Ad) : Sp := fun vs H Q E => ∃ (d : Addr) (n : Int) (lv : List (Int × Option Int)), vs = [.ref d, .int n] ∧ H d = some (.dK (bK lv)) ∧ Forest lv ∧ n ∈ keysOf lv ∧
  ∀ (m : Int) (H' : Hp), MS lv n m → Same H H' → Q (.int m) H'
def t_middle (A : Ad) (E : XK) : TS := tSeq (tAsg (tVar 1) (gName 2)) (tSeq (tAsg (tCall (sp_reach A) [] E0 (tCons (tVar 0) (tCons (tVar 1) (tNil)))) (gName 3)) (tSeq (tFor (iList A.K (tCall (sp_tree_of A) [] E0 (tCons (tVar 0) (tCons (tVar 1) (tNil))))) (gName 4) (tSeq (tAsg (tCall (sp_reach A) [] E0 (tCons (tVar 0) (tCons (tVar 4) (tNil)))) (gName 5)) (tIfS (tOr (tTest (tOp (rLt) (tVar 5) (tVar 3))) (tAnd (tTest (tOp (rEqG A.K) (tVar 5) (tVar 3))) (tTest (tOp (rGt) (tVar 4) (tVar 2))))) (tSeq (tAsg (tVar 4) (gName 2)) (tAsg (tVar 5) (gName 3))) (tNext)))) (tRet (tVar 2))))
theorem p_middle (A : Ad) {vs : List V} {H : Hp} {Q : VK} {E : XK} (h : sp_middle A vs H Q E) : t_middle A E { nx := fun _ H2 => Q .non H2, rt := Q } (start ["bases", "number", "best", "least", "one", "far"] vs) H := by
  obtain ⟨d, n, lv, rfl, hR, F, hn, h1⟩ := h
  have F3 := F.len
  obtain ⟨c0, hc0⟩ := F.ch hn
  (change t_middle A E _ [_, _, none, none, none, none] _; unfold t_middle; walk_at "rd")
  refine ⟨d, n, lv, rfl, hR, F, hn, fun r H1 hr s1 => ?_⟩
  walk_at "rd"
  refine ⟨d, n, lv, rfl, s1 _ _ hR, F, hn, fun c p H2 hc hcl s2 np e2 => ?_⟩
  walk_at "rd"
  refine for_go walk_list (fun i σ H3 => ∃ (b : Int) (r : Nat) (y4 y5 : Option V), σ = [some (.ref d), some (.int n), some (.int b), some (.int r), y4, y5] ∧ Same H2 H3 ∧ InTree lv n b ∧ RS lv b r ∧
      ∀ x ∈ c.take i, ∀ s, RS lv x s → r ≤ s ∧ (s = r → x ≤ b)) ⟨n, r, _, _, rfl, fun _ _ z => z, ⟨c0, c0, hc0, hc0, rfl⟩, hr, fun x hx => by simp at hx⟩ (fun i σ H3 hi ⟨_, _, _, _, _, s, _⟩ => .of (s _ _ e2)) ?_ ?_
  · rintro i x σ H3 H4 hi ⟨b, r, y4, y5, rfl, s3, hb, hrb, hall⟩ ⟨rfl, hx⟩
    rw [List.length_map] at hi
    rw [List.getElem?_map, List.getElem?_eq_getElem hi] at hx
    obtain rfl := Option.some.inj hx
    have hci : c[i] ∈ c := List.getElem_mem hi
    have ht := take_succ hi
    generalize c[i] = one at *
    have hin := (hc one).mp hci
    have hkey : one ∈ keysOf lv := by
      obtain ⟨_, d5, _, g2, _⟩ := hin
      obtain ⟨s, rfl⟩ := g2.head
      exact g2.keys one List.mem_cons_self
    walk_at "rd"
    refine ⟨d, one, lv, rfl, s3 _ _ (s2 _ _ (s1 _ _ hR)), F, hkey, fun r2 H5 hr2 s5 => ?_⟩
    walk_at "rd"
    have new : (r2 < r ∨ r2 = r ∧ b < one) → ∃ (b : Int) (r : Nat) (y4 y5 : Option V), [some (V.ref d), some (.int n), some (.int one), some (.int r2), some (.int one), some (.int r2)] = [some (.ref d), some (.int n), some (.int b), some (.int r), y4, y5] ∧ Same H2 H5 ∧ InTree lv n b ∧ RS lv b r ∧
      ∀ x ∈ c.take (i + 1), ∀ s, RS lv x s → r ≤ s ∧ (s = r → x ≤ b) := fun w => by
      refine ⟨one, r2, _, _, rfl, s3.trans s5, hin, hr2, fun x hx s hs => ?_⟩
      rw [ht, List.mem_append, List.mem_singleton] at hx
      rcases hx with hx | rfl
      · obtain ⟨g1, g2⟩ := hall x hx s hs
        rcases w with w | ⟨w1, w2⟩
        · exact ⟨by omega, fun z => by omega⟩
        · exact ⟨by omega, fun z => by have := g2 (by omega); omega⟩
      · have := hs.inj hr2
        exact ⟨by omega, fun _ => Int.le_refl _⟩
    have old : ¬ (r2 < r ∨ r2 = r ∧ b < one) → ∃ (b2 : Int) (r3 : Nat) (y4 y5 : Option V), [some (V.ref d), some (.int n), some (.int b), some (.int r), some (.int one), some (.int r2)] = [some (.ref d), some (.int n), some (.int b2), some (.int r3), y4, y5] ∧ Same H2 H5 ∧ InTree lv n b2 ∧ RS lv b2 r3 ∧
      ∀ x ∈ c.take (i + 1), ∀ s, RS lv x s → r3 ≤ s ∧ (s = r3 → x ≤ b2) := fun w => by
      refine ⟨b, r, _, _, rfl, s3.trans s5, hb, hrb, fun x hx s hs => ?_⟩
      rw [ht, List.mem_append, List.mem_singleton] at hx
      rcases hx with hx | rfl
      · exact hall x hx s hs
      · have := hs.inj hr2
        exact ⟨by omega, fun z => by omega⟩
    refine r_dec (fun w => ?_) fun w => ?_
    · walk_at "rd"
      exact new (.inl (by omega))
    · walk_at "rd"
      refine r_dec (fun w2 => ?_) fun w2 => ?_
      · walk_at "rd"
        refine r_dec (fun w3 => ?_) fun w3 => ?_
        · walk_at "rd"
          exact new (.inr ⟨by omega, w3⟩)
        · walk_at "rd"
          exact old (by omega)
      · walk_at "rd"
        exact old (by omega)
  · rintro σ H3 ⟨b, r, y4, y5, rfl, s3, hb, hrb, hall⟩
    rw [List.length_map, List.take_of_length_le (Nat.le_refl _)] at hall
    walk_at "rd"
    exact h1 b H3 ⟨hb, r, hrb, fun x s hx hs => hall x ((hc x).mpr hx) s hs⟩ ((s1.trans s2).trans s3)
def sp_P_read (A : Ad) : Sp := fun vs H Q E => ∃ (p dl ds : Addr) (b co : Int) (ks : List Int) (o : Int → Option Int) (k : Int → Kept) (v : V), vs = [.ref p, v] ∧ PkR A H p dl ds b co ks o k ∧
  (((∃ (n : Int) (tx : Int → List Nat), v = .int n ∧ n ∈ ks ∧ Gd ks o k tx ∧ ∀ H', Same H H' → Q (.str (S (tx n))) H')) ∨ (NoVer H ks v ∧ E (.ref A.cNoVersion) none H))
theorem u_read {A : Ad} {p dl ds : Addr} {b co : Int} {ks : List Int} {o : Int → Option Int} {k : Int → Kept} {n : Int} {tx : Int → List Nat} {H : Hp} {Q : VK} {E : XK} (h : PkR A H p dl ds b co ks o k) (hn : n ∈ ks) (g : Gd ks o k tx) (q : ∀ H', Same H H' → Q (.str (S (tx n))) H') : sp_P_read A [.ref p, .int n] H Q E :=
  ⟨p, dl, ds, b, co, ks, o, k, _, rfl, h, .inl ⟨n, tx, rfl, hn, g, q⟩⟩
def t_P_read (A : Ad) (E : XK) : TS := tSeq (tDrop (tMeth A.cPack "need" (sp_P_need A) [] E (tVar 0) (tCons (tVar 1) (tNil)))) (tSeq (tAsg (tCall (sp_chain_of A) [] E (tCons (tFld A.K (tVar 0) "leans") (tCons (tVar 1) (tNil)))) (gName 2)) (tSeq (tAsg (tDGet (tFld A.K (tVar 0) "stock") (tOp (rIx A.K) (tVar 2) (tUn rNeg (tC (.int 1))))) (gName 3)) (tSeq (tFor (iRev A.K (tCons (tSl (rSl2 A.K) (tVar 2) (tNoPart) (tPart (tUn rNeg (tC (.int 1))))) (tNil))) (gName 4) (tAsg (tCall (sp_done A) [] E (tCons (tVar 3) (tCons (tDGet (tFld A.K (tVar 0) "stock") (tVar 4)) (tNil)))) (gName 3))) (tRet (tVar 3)))))
theorem p_P_read (A : Ad) (pk : PkOk A) {vs : List V} {H : Hp} {Q : VK} {E : XK} (h : sp_P_read A vs H Q E) : t_P_read A E { nx := fun _ H2 => Q .non H2, rt := Q } (start ["self", "number", "chain", "text", "one"] vs) H := by
  obtain ⟨p, dl, ds, b, co, ks, o, k, v, rfl, hP, h1⟩ := h
  obtain ⟨⟨dx, ip⟩, il, sv, is, kv⟩ := id hP
  rcases h1 with ⟨n, tx, rfl, hn, g, h1⟩ | ⟨hv, h1⟩
  · (change t_P_read A E _ [_, _, none, none, none] _; unfold t_P_read; walk_at "rd")
    refine u_need hP hn ?_
    walk_at "rd"
    obtain ⟨c, hc, hl⟩ := g.ch hn
    refine u_chain_of (lv := lvO ks o) (by rw [bK_lvO]; exact il) hc (by omega) fun q1 H1 nq1 s1 e1 => ?_
    walk_at "rd"
    refine r_ixL (.of e1) (last_at hc) ?_
    have hlast := hc.last
    have hlm := ch_keys hc _ hlast.1
    have hlo := (look_inv hlast.2).2
    have is1 := s1 _ _ is
    refine r_dgetE (.of is1) (nK_in hlm) ?_
    have kvl := kv _ hlm
    rw [g.whole hlm hlo] at kvl
    rw [show sv (lastOf c) = .str (S (tx (lastOf c))) from kvl]
    walk_at "rd"
    refine r_slL (.of e1) fun q2 H2 nq2 s2 e2 => ?_
    rw [cutV_init, ← List.map_dropLast] at e2
    walk_at "rd"
    have lc : 0 < c.length := by obtain ⟨r, rfl⟩ := hc.head; exact Nat.succ_pos _
    refine ⟨q2, _, rfl, .of e2, ?_⟩
    rw [List.length_map, List.length_dropLast]
    have wk : Walk (Itv A.K q2 (c.length - 1)) (c.length - 1) (fun H => SqL A.K H q2 (c.dropLast.map V.int)) (fun i H x H' => H' = H ∧ (c.dropLast.map V.int)[(c.dropLast.map V.int).length - 1 - i]? = some x) := by
      have := walk_rev (K := A.K) (a := q2) (xs := c.dropLast.map V.int)
      rw [List.length_map, List.length_dropLast] at this
      rw [List.length_map, List.length_dropLast]
      exact this
    refine for_go wk (fun i σ H3 => ∃ y : Option V, σ = [some (.ref p), some (.int n), some (.ref q1), some (.str (S (tx (c.getD (c.length - 1 - i) 0)))), y] ∧ H3 = H2) ⟨none, ?_, rfl⟩ (fun i σ H3 hi ⟨_, _, e⟩ => by rw [e]; exact .of e2) ?_ ?_
    · have el : lastOf c = c.getD (c.length - 1 - 0) 0 := by
        unfold lastOf
        rw [List.getLast?_eq_getElem?, List.getD_eq_getElem?_getD, Nat.sub_zero]
      rw [el]
    · rintro i x σ H3 H4 hi ⟨y, rfl, rfl⟩ ⟨rfl, hx⟩
      rw [List.length_map, List.length_dropLast, List.getElem?_map, List.getElem?_dropLast, if_pos (by omega)] at hx
      have hj : c.length - 1 - 1 - i < c.length := by omega
      rw [List.getElem?_eq_getElem hj] at hx
      obtain rfl := Option.some.inj hx
      have hat := hc.at _ _ (List.getElem?_eq_getElem hj)
      rw [show c.length - 1 - 1 - i + 1 = c.length - 1 - i by omega, List.getElem?_eq_getElem (show c.length - 1 - i < c.length by omega)] at hat
      obtain ⟨hxm, hxo⟩ := look_inv hat
      have e5 : c.getD (c.length - 1 - i) 0 = c[c.length - 1 - i] := by rw [List.getD_eq_getElem?_getD, List.getElem?_eq_getElem (by omega)]; rfl
      have e6 : c.getD (c.length - 1 - (i + 1)) 0 = c[c.length - 1 - 1 - i] := by rw [List.getD_eq_getElem?_getD, show c.length - 1 - (i + 1) = c.length - 1 - 1 - i by omega, List.getElem?_eq_getElem hj]; rfl
      rw [e5]
      generalize c[c.length - 1 - 1 - i] = one at *
      generalize c[c.length - 1 - i] = base at *
      obtain ⟨j, gg, cc, hk, hf, hd, t1, t2⟩ := g.kept hxm hxo
      have kvx := kv _ hxm
      rw [hk] at kvx
      obtain ⟨t, et, ht⟩ := kvx
      walk_at "rd"
      refine r_dgetE (.of (s2 _ _ is1)) (nK_in hxm) ?_
      rw [et]
      walk_at "rd"
      have ht4 := s2 _ _ (s1 _ _ ht)
      have szb := g.sz _ (g.base hxm hxo)
      refine ⟨_, _, _, _, _, rfl, ht4, by have := szb.1; omega, by have := t1.1; omega, by have := t2.1; omega, fun _ => ?_, fun z => absurd hf z⟩
      rw [hd]
      walk_at "rd"
      exact ⟨_, by rw [e6], rfl⟩
    · rintro σ H3 ⟨y, rfl, rfl⟩
      walk_at "rd"
      have e0 : c.getD (c.length - 1 - (c.length - 1)) 0 = n := by
        obtain ⟨r, rfl⟩ := hc.head
        rw [Nat.sub_self]
        rfl
      rw [e0]
      exact h1 _ (s1.trans s2)
  · (change t_P_read A E _ [_, _, none, none, none] _; unfold t_P_read; walk_at "rd")
    exact u_needX hP hv h1
def sp_P_base (A : Ad) : Sp := fun vs H Q E => ∃ (p dl ds : Addr) (b co : Int) (ks : List Int) (o : Int → Option Int) (k : Int → Kept) (v : V), vs = [.ref p, v] ∧ PkR A H p dl ds b co ks o k ∧
  ((∃ n, v = .int n ∧ n ∈ ks ∧ Q (obV (o n)) H) ∨ (NoVer H ks v ∧ E (.ref A.cNoVersion) none H))
def t_P_base (A : Ad) (E : XK) : TS := tSeq (tDrop (tMeth A.cPack "need" (sp_P_need A) [] E (tVar 0) (tCons (tVar 1) (tNil)))) (tRet (tDGet (tFld A.K (tVar 0) "leans") (tVar 1)))
theorem p_P_base (A : Ad) (pk : PkOk A) {vs : List V} {H : Hp} {Q : VK} {E : XK} (h : sp_P_base A vs H Q E) : t_P_base A E { nx := fun _ H2 => Q .non H2, rt := Q } (start ["self", "number"] vs) H := by
  obtain ⟨p, dl, ds, b, co, ks, o, k, v, rfl, hP, h1⟩ := h
  obtain ⟨⟨dx, ip⟩, il, _⟩ := id hP
  rcases h1 with ⟨n, rfl, hn, h1⟩ | ⟨hv, h1⟩
  · (change t_P_base A E _ [_, _] _; unfold t_P_base; walk_at "rd")
    refine u_need hP hn ?_
    walk_at "rd"
    exact r_dgetE il (nK_in hn) h1
  · (change t_P_base A E _ [_, _] _; unfold t_P_base; walk_at "rd")
    exact u_needX hP hv h1
def sp_P_chain (A : Ad) : Sp := fun vs H Q E => ∃ (p dl ds : Addr) (b co : Int) (ks : List Int) (o : Int → Option Int) (k : Int → Kept) (v : V), vs = [.ref p, v] ∧ PkR A H p dl ds b co ks o k ∧
  ((∃ (n : Int) (c : List Int), v = .int n ∧ n ∈ ks ∧ Ch (lvO ks o) n c ∧ c.length ≤ 1000 ∧ Nw H (.lst (c.map V.int)) Q) ∨ (NoVer H ks v ∧ E (.ref A.cNoVersion) none H))
def t_P_chain (A : Ad) (E : XK) : TS := tSeq (tDrop (tMeth A.cPack "need" (sp_P_need A) [] E (tVar 0) (tCons (tVar 1) (tNil)))) (tRet (tCall (sp_chain_of A) [] E (tCons (tFld A.K (tVar 0) "leans") (tCons (tVar 1) (tNil)))))
theorem p_P_chain (A : Ad) (pk : PkOk A) {vs : List V} {H : Hp} {Q : VK} {E : XK} (h : sp_P_chain A vs H Q E) : t_P_chain A E { nx := fun _ H2 => Q .non H2, rt := Q } (start ["self", "number"] vs) H := by
  obtain ⟨p, dl, ds, b, co, ks, o, k, v, rfl, hP, h1⟩ := h
  obtain ⟨⟨dx, ip⟩, il, _⟩ := id hP
  rcases h1 with ⟨n, c, rfl, hn, hc, hl, h1⟩ | ⟨hv, h1⟩
  · (change t_P_chain A E _ [_, _] _; unfold t_P_chain; walk_at "rd")
    refine u_need hP hn ?_
    walk_at "rd"
    exact u_chain_of (lv := lvO ks o) (by rw [bK_lvO]; exact il) hc (by omega) h1
  · (change t_P_chain A E _ [_, _] _; unfold t_P_chain; walk_at "rd")
    exact u_needX hP hv h1
def sp_l_next_text (A : Ad) : Sp := fun vs H Q E => ∃ (z : List Nat) (c : Int), vs = [.str (S z), .int c] ∧ z.length ≤ 100000 ∧ Ok z ∧ ∀ l H', Same H H' → l.length ≤ max (z.length + 2) 8 → Ok l → Q (.str (S l)) H'
theorem u_next_text {A : Ad} {z : List Nat} {c : Int} {H : Hp} {Q : VK} {E : XK} (hl : z.length ≤ 100000) (ho : Ok z) (h : ∀ l H', Same H H' → l.length ≤ max (z.length + 2) 8 → Ok l → Q (.str (S l)) H') : sp_l_next_text A [.str (S z), .int c] H Q E := ⟨z, c, rfl, hl, ho, h⟩
def t_l_next_text (A : Ad) (E : XK) : TS := tSeq (tAsg (tOp rMod (tVar 1) (tC (.int 5))) (gName 2)) (tSeq (tAsg (tOp rMod (tOp rDiv (tVar 1) (tC (.int 5))) (tOp rAdd3 (tCB (rLenG A.K) (tCons (tVar 0) (tNil))) (tC (.int 1)))) (gName 3)) (tSeq (tAsg (tOp rDiv (tOp rDiv (tVar 1) (tC (.int 5))) (tOp rAdd3 (tCB (rLenG A.K) (tCons (tVar 0) (tNil))) (tC (.int 1)))) (gName 4)) (tSeq (tIfS (tTest (tOp (rEqG A.K) (tVar 2) (tC (.int 0)))) (tRet (tVar 0)) (tNext)) (tSeq (tIfS (tTest (tOp (rEqG A.K) (tVar 2) (tC (.int 1)))) (tRet (tOp rAdd3 (tOp rAdd3 (tOp rAdd3 (tSl (rSl2 A.K) (tVar 0) (tNoPart) (tPart (tVar 3))) (tCall (sp_l_sign_by A) [] E0 (tCons (tVar 4) (tNil)))) (tCall (sp_l_sign_by A) [] E0 (tCons (tOp rDiv (tVar 4) (tC (.int 96))) (tNil)))) (tSl (rSl2 A.K) (tVar 0) (tPart (tVar 3)) (tNoPart)))) (tNext)) (tSeq (tIfS (tTest (tOp (rEqG A.K) (tVar 2) (tC (.int 2)))) (tRet (tOp rAdd3 (tSl (rSl2 A.K) (tVar 0) (tNoPart) (tPart (tVar 3))) (tSl (rSl2 A.K) (tVar 0) (tPart (tOp rAdd3 (tOp rAdd3 (tVar 3) (tC (.int 1))) (tOp rMod (tVar 4) (tC (.int 3))))) (tNoPart)))) (tNext)) (tSeq (tIfS (tTest (tOp (rEqG A.K) (tVar 2) (tC (.int 3)))) (tRet (tOp rAdd3 (tOp rAdd3 (tSl (rSl2 A.K) (tVar 0) (tNoPart) (tPart (tVar 3))) (tCall (sp_l_sign_by A) [] E0 (tCons (tVar 4) (tNil)))) (tSl (rSl2 A.K) (tVar 0) (tPart (tOp rAdd3 (tVar 3) (tC (.int 1)))) (tNoPart)))) (tNext)) (tRet (tCall (sp_l_text_by A) [] E0 (tCons (tVar 4) (tCons (tOp rMod (tVar 4) (tC (.int 9))) (tNil)))))))))))
theorem p_l_next_text (A : Ad) {vs : List V} {H : Hp} {Q : VK} {E : XK} (h : sp_l_next_text A vs H Q E) : t_l_next_text A E { nx := fun _ H2 => Q .non H2, rt := Q } (start ["_law_old", "_law_cell", "_law_way", "_law_at", "_law_left"] vs) H := by
  obtain ⟨z, c, rfl, hl, ho, h1⟩ := h
  (change t_l_next_text A E _ [_, _, none, none, none] _; unfold t_l_next_text; walk_at "rd")
  obtain ⟨k, ek⟩ : ∃ k : Nat, c / 5 % ((z.length : Int) + 1) = k := ⟨(c / 5 % ((z.length : Int) + 1)).toNat, by have := Int.emod_nonneg (c / 5) (show ((z.length : Int) + 1) ≠ 0 by omega); omega⟩
  have kl : k ≤ z.length := by have := Int.emod_lt_of_pos (c / 5) (show 0 < (z.length : Int) + 1 by omega); omega
  rw [ek]
  refine r_dec (fun d => ?_) fun d => ?_
  · walk_at "rd"
    exact h1 z H (fun _ _ q => q) (by omega) ho
  walk_at "rd"
  have c1 := cutL_to z k
  have c2 := cutL_from z k
  refine r_dec (fun d => ?_) fun d => ?_
  · walk_at "rd"
    refine u_sign_by fun x hx => ?_
    rw [c1]
    walk_at "rd"
    refine r_addS (sz (by rw [List.length_take]; show min k z.length + 1 ≤ _; omega)) ?_
    walk_at "rd"
    refine u_sign_by fun y hy => ?_
    refine r_addS (sz (by rw [List.length_append, List.length_take]; show min k z.length + 1 + 1 ≤ _; omega)) ?_
    walk_at "rd"
    rw [c2]
    refine r_addS (sz (by simp only [List.length_append, List.length_take, List.length_drop, List.length_cons, List.length_nil]; omega)) ?_
    refine h1 _ H (fun _ _ q => q) (by simp only [List.length_append, List.length_take, List.length_drop, List.length_cons, List.length_nil]; omega) ?_
    intro w hw
    simp only [List.mem_append, List.mem_singleton] at hw
    rcases hw with ((hw | rfl) | rfl) | hw
    · exact ho w (List.mem_of_mem_take hw)
    · exact hx
    · exact hy
    · exact ho w (List.mem_of_mem_drop hw)
  walk_at "rd"
  refine r_dec (fun d => ?_) fun d => ?_
  · walk_at "rd"
    obtain ⟨j, ej⟩ : ∃ j : Nat, (k : Int) + 1 + c / 5 / ((z.length : Int) + 1) % 3 = j := ⟨((k : Int) + 1 + c / 5 / ((z.length : Int) + 1) % 3).toNat, by omega⟩
    rw [c1, ej, cutL_from]
    refine r_addS (sz (by simp only [List.length_append, List.length_take, List.length_drop]; omega)) ?_
    refine h1 _ H (fun _ _ q => q) (by simp only [List.length_append, List.length_take, List.length_drop]; omega) ?_
    intro w hw
    rcases List.mem_append.mp hw with hw | hw
    · exact ho w (List.mem_of_mem_take hw)
    · exact ho w (List.mem_of_mem_drop hw)
  walk_at "rd"
  refine r_dec (fun d => ?_) fun d => ?_
  · walk_at "rd"
    refine u_sign_by fun x hx => ?_
    rw [c1]
    walk_at "rd"
    refine r_addS (sz (by rw [List.length_take]; show min k z.length + 1 ≤ _; omega)) ?_
    walk_at "rd"
    rw [show ((k : Int) + 1) = ((k + 1 : Nat) : Int) by omega, cutL_from]
    refine r_addS (sz (by simp only [List.length_append, List.length_take, List.length_drop, List.length_cons, List.length_nil]; omega)) ?_
    refine h1 _ H (fun _ _ q => q) (by simp only [List.length_append, List.length_take, List.length_drop, List.length_cons, List.length_nil]; omega) ?_
    intro w hw
    simp only [List.mem_append, List.mem_singleton] at hw
    rcases hw with (hw | rfl) | hw
    · exact ho w (List.mem_of_mem_take hw)
    · exact hx
    · exact ho w (List.mem_of_mem_drop hw)
  walk_at "rd"
  exact u_text_by (by omega) (by omega) fun l H' hl' ol s => h1 l H' s (by omega) ol
def sp_l_rows_are (A : Ad) : Sp := fun vs H Q E => ∃ (r d : Addr) (ys ks : List Int) (o o' : Int → Option Int) (k k' : Int → Kept) (tx : Int → List Nat), vs = [.ref r, .ref d] ∧ RowsAt H r ys o k ∧ KeptAt H d ks o' k' ∧ ys.Perm ks ∧ ys.Pairwise (· < ·) ∧ ks.length < 64 ∧ Gd ys o k tx ∧
  (∀ n ∈ ys, o n = o' n) ∧ (∀ n ∈ ys, k n = k' n) ∧ ∀ H', Same H H' → Q (.bl true) H'
theorem u_rows_are {A : Ad} {r d : Addr} {ys ks : List Int} {o o' : Int → Option Int} {k k' : Int → Kept} {tx : Int → List Nat} {H : Hp} {Q : VK} {E : XK} (h1 : RowsAt H r ys o k) (h2 : KeptAt H d ks o' k') (h3 : ys.Perm ks) (h4 : ys.Pairwise (· < ·)) (h5 : ks.length < 64) (g : Gd ys o k tx)
    (h6 : ∀ n ∈ ys, o n = o' n) (h7 : ∀ n ∈ ys, k n = k' n) (q : ∀ H', Same H H' → Q (.bl true) H') : sp_l_rows_are A [.ref r, .ref d] H Q E := ⟨r, d, ys, ks, o, o', k, k', tx, rfl, h1, h2, h3, h4, h5, g, h6, h7, q⟩
def t_l_rows_are (A : Ad) (E : XK) : TS := tSeq (tIfS (tNot (tB (tCB (rIsi A.K) (tCons (tVar 0) (tCons (tC (.ty "list")) (tNil)))))) (tRet (tC (.bl false))) (tNext)) (tSeq (tFor (iList A.K (tVar 0)) (gName 2) (tIfS (tNot (tB (tCall (sp_l_kinds A) [] E0 (tCons (tVar 2) (tNil))))) (tRet (tC (.bl false))) (tNext))) (tRet (tOp (rEqG A.K) (tVar 0) (tCall (sp_l_rows_of A) [] E0 (tCons (tVar 1) (tNil))))))
theorem p_l_rows_are (A : Ad) {vs : List V} {H : Hp} {Q : VK} {E : XK} (h : sp_l_rows_are A vs H Q E) : t_l_rows_are A E { nx := fun _ H2 => Q .non H2, rt := Q } (start ["_law_found", "_law_kept", "_law_row"] vs) H := by
  obtain ⟨r, d, ys, ks, o, o', k, k', tx, rfl, hR, hK, hp, hs, hl, g, ho, hk, h1⟩ := h
  obtain ⟨ra, er, hra⟩ := id hR
  (change t_l_rows_are A E _ [_, _, none] _; unfold t_l_rows_are; walk_at "rd")
  refine for_go walk_list (fun i σ H2 => ∃ y : Option V, σ = [some (.ref r), some (.ref d), y] ∧ H2 = H) ⟨none, rfl, rfl⟩ (fun i σ H2 hi ⟨_, _, e⟩ => by rw [e]; exact .of er) ?_ ?_
  · rintro i x σ H2 H3 hi ⟨y, rfl, rfl⟩ ⟨rfl, hx⟩
    rw [List.length_map] at hi
    rw [List.getElem?_map, List.getElem?_eq_getElem hi] at hx
    obtain rfl := Option.some.inj hx
    have hci : ys[i] ∈ ys := List.getElem_mem hi
    generalize ys[i] = one at *
    obtain ⟨kv, e2, hkv⟩ := hra one hci
    walk_at "rd"
    refine ⟨_, one, o one, k one, kv, rfl, e2, hkv, fun e => ⟨_, g.whole hci e⟩, fun b e => ?_, ?_⟩
    · obtain ⟨i, gg, c, h, _⟩ := g.kept hci e
      exact ⟨i, gg, c, h⟩
    walk_at "rd"
    exact ⟨_, rfl, rfl⟩
  · rintro σ H2 ⟨y, rfl, rfl⟩
    have nd : ks.Nodup := hp.nodup_iff.mp g.nd
    walk_at "rd"
    refine u_rows_of hK nd hl fun zs q H3 hp2 hs2 s3 _ hR3 => ?_
    have ez : zs = ys := rising_eq (hp2.trans hp.symm) (hs2.imp fun h => Int.le_of_lt h) hs
    subst ez
    have hr1 := (hR.of_sm s3).dp (K := A.K)
    have hr2 := hR3.dp (K := A.K)
    rw [← rowsD_congr ho hk] at hr2
    refine r_eqSame (rowsD zs o k) hr1 hr2 (rowsD_ok g.okS) (h1 H3 s3)
def sp_P_lay (A : Ad) : Sp := fun vs H Q E => ∃ (p dl ds : Addr) (b co : Int) (ks : List Int) (o : Int → Option Int) (k : Int → Kept) (tx : Int → List Nat) (n : Int) (oth : Option Int) (t : List Nat), vs = [.ref p, .int n, obV oth, .str (S t)] ∧ PkAt A H p dl ds b co ks o k ∧
  ks.length ≤ 1000 ∧ t.length ≤ 100000 ∧ (∀ x, oth = some x → x ∈ ks ∧ Gd ks o k tx) ∧ ∀ H', Frm p dl ds H H' → PkAt A H' p dl ds b co (addK ks n) (fu o n oth) (fu k n (layK tx oth t)) → Q .non H'
theorem u_lay {A : Ad} {p dl ds : Addr} {b co : Int} {ks : List Int} {o : Int → Option Int} {k : Int → Kept} {tx : Int → List Nat} {n : Int} (oth : Option Int) {t : List Nat} {v : V} {H : Hp} {Q : VK} {E : XK} (ev : v = obV oth) (h : PkAt A H p dl ds b co ks o k) (hl : ks.length ≤ 1000) (ht : t.length ≤ 100000) (ho : ∀ x, oth = some x → x ∈ ks ∧ Gd ks o k tx)
    (q : ∀ H', Frm p dl ds H H' → PkAt A H' p dl ds b co (addK ks n) (fu o n oth) (fu k n (layK tx oth t)) → Q .non H') : sp_P_lay A [.ref p, .int n, v, .str (S t)] H Q E := ⟨p, dl, ds, b, co, ks, o, k, tx, n, oth, t, by rw [ev], h, hl, ht, ho, q⟩
def t_P_lay (A : Ad) (E : XK) : TS := tCut (tIfS (tB (tIsN (tVar 2))) (sDPut (tFld A.K (tVar 0) "stock") (tVar 1) (tVar 3)) (sDPut (tFld A.K (tVar 0) "stock") (tVar 1) (tCall (sp_change_of A) [] E0 (tCons (tMeth A.cPack "read" (sp_P_read A) [] E0 (tVar 0) (tCons (tVar 2) (tNil))) (tCons (tVar 3) (tNil)))))) (sDPut (tFld A.K (tVar 0) "leans") (tVar 1) (tVar 2))
theorem p_P_lay (A : Ad) (pk : PkOk A) {vs : List V} {H : Hp} {Q : VK} {E : XK} (h : sp_P_lay A vs H Q E) : t_P_lay A E { nx := fun _ H2 => Q .non H2, rt := Q } (start ["self", "number", "other", "text"] vs) H := by
  obtain ⟨p, dl, ds, b, co, ks, o, k, tx, n, oth, t, rfl, hP, hl, lt, hoth, h1⟩ := h
  obtain ⟨⟨dx, ip⟩, il, ⟨sv, is, kv⟩, ne⟩ := id hP
  have npl : p ≠ dl := ne_val ip il fun z => by cases z
  have nps : p ≠ ds := ne_val ip is fun z => by cases z
  (change t_P_lay A E _ [_, _, _, _] _; unfold t_P_lay; walk_at "rd")
  refine r_cut (fun σ' H' => ∃ sv', σ' = [some (.ref p), some (.int n), some (obV oth), some (.str (S t))] ∧ Frm p dl ds H H' ∧ H' p = some (.ins A.cPack dx (fsP b dl ds co)) ∧ H' dl = some (.dK (nK (fun m => obV (o m)) ks)) ∧ H' ds = some (.dK (nK (fu sv n sv') (addK ks n))) ∧ KvAt H' sv' (layK tx oth t) ∧ ∀ m ∈ ks, KvAt H' (sv m) (k m)) ?_ ?_
  · walk_at "rd"
    cases oth with
    | none =>
      refine r_dec (fun _ => ?_) fun z => absurd rfl z
      walk_at "rd"
      refine r_dputE is (szl (by rw [nK_len]; omega)) fun H1 c1 => ?_
      have f1 : Frm p dl ds H H1 := (Frm.of (fun _ _ z => z)).chg c1 (.inr (.inr rfl))
      exact ⟨_, rfl, f1, c1.2 _ _ nps ip, c1.2 _ _ ne il, by rw [c1.1, nK_add], rfl, fun m hm => (kv m hm).sm fun a xs z => hP.tup f1 z⟩
    | some x =>
      obtain ⟨hx, g⟩ := hoth x rfl
      refine r_dec (fun z => V.noConfusion z) fun _ => ?_
      walk_at "rd"
      refine u_read hP.r hx g fun H1 s1 => ?_
      walk_at "rd"
      have := (g.sz x hx).1
      refine ⟨_, t, rfl, by omega, by omega, fun q H2 nq s2 e2 => ?_⟩
      walk_at "rd"
      have s02 := s1.trans s2
      refine r_dputE (s02 _ _ is) (szl (by rw [nK_len]; omega)) fun H3 c3 => ?_
      have f3 : Frm p dl ds H H3 := (Frm.of s02).chg c3 (.inr (.inr rfl))
      refine ⟨_, rfl, f3, c3.2 _ _ nps (s02 _ _ ip), c3.2 _ _ ne (s02 _ _ il), by rw [c3.1, nK_add], ⟨q, rfl, c3.2 _ _ (fun z => ?_) e2⟩, fun m hm => (kv m hm).sm fun a xs z => hP.tup f3 z⟩
      rw [z, s1 _ _ is] at nq; cases nq
  rintro σ' H' ⟨sv', rfl, f1, ip1, il1, is1, kv1, kv2⟩
  walk_at "rd"
  refine r_dputE il1 (szl (by rw [nK_len]; omega)) fun H2 c2 => ?_
  have tup2 : ∀ a xs, H' a = some (.tup xs) → H2 a = some (.tup xs) := fun a xs z => c2.2 _ _ (ne_val z il1 fun z => by cases z) z
  refine h1 H2 (f1.chg c2 (.inr (.inl rfl))) ⟨⟨dx, c2.2 _ _ npl ip1⟩, by rw [c2.1, nK_add, obV_fu], ⟨_, c2.2 _ _ ne.symm is1, fun m hm => ?_⟩, ne⟩
  by_cases e : m = n
  · rw [e, fu_eq, fu_eq]; exact kv1.sm tup2
  · rw [fu_ne e, fu_ne e]; exact (kv2 m ((mem_addK.mp hm).resolve_right e)).sm tup2
def sp_opened (A : Ad) : Sp := fun vs H Q E => ∃ (r : Addr) (b : Int) (ks : List Int) (o : Int → Option Int) (k : Int → Kept) (tx : Int → List Nat), vs = [.ref r, .int b] ∧ RowsAt H r ks o k ∧ ks.Pairwise (· < ·) ∧ (∀ n ∈ ks, 0 ≤ n) ∧ Gd ks o k tx ∧ 0 ≤ b ∧ b ≤ 1000 ∧
  (∀ n c, Ch (lvO ks o) n c → (c.length : Int) - 1 ≤ b) ∧ ∀ (p dl ds : Addr) (H' : Hp), Same H H' → H p = none → H dl = none → H ds = none → PkAt A H' p dl ds b (comeOfK ks) ks o k → Q (.ref p) H'
def t_opened (A : Ad) (E : XK) : TS := tSeq (tAsg (tMake A.cPack (sp_P_init A) [] E (tCons (tVar 1) (tNil))) (gName 2)) (tSeq (tFor (iList A.K (tVar 0)) (gTup A.K 3 (gCons (gName 3) (gCons (gName 4) (gCons (gName 5) (gNil))))) (tSeq (tIfS (tTest (tOp (rLt) (tVar 3) (tFld A.K (tVar 2) "coming"))) (tRaise A.cBadRows E) (tNext)) (tSeq (sDPut (tFld A.K (tVar 2) "leans") (tVar 3) (tVar 4)) (tSeq (sDPut (tFld A.K (tVar 2) "stock") (tVar 3) (tVar 5)) (sFld A.K (tVar 2) (tOp rAdd3 (tVar 3) (tC (.int 1))) "coming"))))) (tSeq (tLock (tFor (iKeys (tFld A.K (tVar 2) "leans")) (gName 3) (tIfS (tAnd (tB (tNotN (tDGet (tFld A.K (tVar 2) "leans") (tVar 3)))) (tB (tDNotIn (tDGet (tFld A.K (tVar 2) "leans") (tVar 3)) (tFld A.K (tVar 2) "leans")))) (tRaise A.cBadRows E) (tNext)))) (tSeq (tLock (tFor (iKeys (tFld A.K (tVar 2) "leans")) (gName 3) (tIfS (tNot (tB (tCall (sp_within A) [] E (tCons (tFld A.K (tVar 2) "leans") (tCons (tVar 3) (tCons (tVar 1) (tNil))))))) (tRaise A.cBadRows E) (tNext)))) (tSeq (tLock (tFor (iKeys (tFld A.K (tVar 2) "leans")) (gName 3) (tDrop (tMeth A.cPack "read" (sp_P_read A) [] E0 (tVar 2) (tCons (tVar 3) (tNil)))))) (tRet (tVar 2))))))
theorem p_opened (A : Ad) (pk : PkOk A) {vs : List V} {H : Hp} {Q : VK} {E : XK} (h : sp_opened A vs H Q E) : t_opened A E { nx := fun _ H2 => Q .non H2, rt := Q } (start ["rows", "bound", "pack", "number", "other", "kept"] vs) H := by
  obtain ⟨r, b, ks, o, k, tx, rfl, hR, hs, h0, g, b0, b1, hch, h1⟩ := h
  (change t_opened A E _ [_, _, none, none, none, none] _; unfold t_opened; walk_at "rd")
  intro p dx np nx nxp
  refine ⟨p, dx, _, rfl, upd_same, .inl ⟨b, rfl, b0, b1, fun dl ds H1 s1 nl ns hP => ⟨rfl, ?_⟩⟩⟩
  have s01 : Same H H1 := fun a u e => s1 a u (ne_of_none e np) (by rw [upd_ne (ne_of_none e np), upd_ne (ne_of_none e nx)]; exact e)
  have free : ∀ {a : Addr}, a ≠ p → a ≠ dx → (upd (upd H dx (.own p)) p (.ins A.cPack dx [])) a = none → H a = none := fun {a} n1 n2 e => by
    rw [upd_ne n1, upd_ne n2] at e; exact e
  have nlp : dl ≠ p := fun z => by rw [z, upd_same] at nl; cases nl
  have nsp : ds ≠ p := fun z => by rw [z, upd_same] at ns; cases ns
  have nlx : dl ≠ dx := fun z => by rw [z, upd_ne nxp, upd_same] at nl; cases nl
  have nsx : ds ≠ dx := fun z => by rw [z, upd_ne nxp, upd_same] at ns; cases ns
  have fl := free nlp nlx nl
  have fs := free nsp nsx ns
  clear nl ns s1 free
  walk_at "rd"
  have hR1 := hR.of_sm s01
  obtain ⟨ra, er, hra⟩ := id hR1
  walk_at "rd"
  have kl := g.len
  refine for_go walk_list (fun i σ H2 => ∃ (y3 y4 y5 : Option V), σ = [some (.ref r), some (.int b), some (.ref p), y3, y4, y5] ∧ Same H H2 ∧ Frm p dl ds H1 H2 ∧ PkAt A H2 p dl ds b (comeOfK (ks.take i)) (ks.take i) o k) ⟨none, none, none, rfl, s01, .of (fun _ _ z => z), hP.congr (fun n hn => by cases hn) fun n hn => by cases hn⟩ (fun i σ H2 hi ⟨_, _, _, _, _, f, _⟩ => .of (hP.lst f er)) ?_ ?_
  · rintro i x σ H2 H3 hi ⟨y3, y4, y5, rfl, s2, f2, hP2⟩ ⟨rfl, hx⟩
    rw [List.length_map] at hi
    rw [List.getElem?_map, List.getElem?_eq_getElem hi] at hx
    obtain rfl := Option.some.inj hx
    have hci : ks[i] ∈ ks := List.getElem_mem hi
    have ht := take_succ hi
    have hlt : ∀ m ∈ ks.take i, m < ks[i] := fun m hm => by
      have := hs.sublist (List.take_sublist (i + 1) ks)
      rw [ht, List.pairwise_append] at this
      exact this.2.2 m hm _ (by simp)
    have hco : comeOfK (ks.take i) ≤ ks[i] := by
      unfold comeOfK
      cases e : (ks.take i).getLast? with
      | none => exact h0 _ hci
      | some m => exact hlt m (List.mem_of_getLast? e)
    rw [ht, comeOfK_app]
    generalize ks[i] = one at *
    have hno : one ∉ ks.take i := fun z => by have := hlt one z; omega
    obtain ⟨kv, e1, hkv⟩ := hra one hci
    have e3 := hP.tup f2 e1
    have hkv3 := hkv.sm fun a xs z => hP.tup f2 z
    obtain ⟨⟨dx2, ip2⟩, il2, ⟨sv2, is2, kv2⟩, ne2⟩ := id hP2
    refine ⟨_, _, rfl, .of e3, rfl, ?_⟩
    walk_at "rd"
    refine r_dec (fun z => by omega) fun _ => ?_
    walk_at "rd"
    have npl : p ≠ dl := ne_val ip2 il2 fun z => by cases z
    have nps : p ≠ ds := ne_val ip2 is2 fun z => by cases z
    have tl : (ks.take i).length ≤ 1000 := by rw [List.length_take]; omega
    refine r_dputE il2 (szl (by rw [nK_len]; omega)) fun H4 c4 => ?_
    have ip4 := c4.2 _ _ npl ip2
    have is4 := c4.2 _ _ ne2.symm is2
    walk_at "rd"
    refine r_dputE is4 (szl (by rw [nK_len]; omega)) fun H5 c5 => ?_
    have ip5 := c5.2 _ _ nps ip4
    walk_at "rd"
    refine ⟨p, _, _, _, rfl, ip5, pk.cl, pk.nc, (show 4 < 1000 by decide), ?_⟩
    have c6 : Chg p _ H5 _ := chg_upd (o := .ins A.cPack dx2 (putF ("coming" : Str) (.int (one + 1)) (fsP b dl ds (comeOfK (ks.take i)))))
    revert c6
    generalize upd H5 p (.ins A.cPack dx2 (putF ("coming" : Str) (.int (one + 1)) (fsP b dl ds (comeOfK (ks.take i))))) = H6
    intro c6
    have f6 : Frm p dl ds H3 H6 := (((Frm.of (fun _ _ z => z)).chg c4 (.inr (.inl rfl))).chg c5 (.inr (.inr rfl))).chg c6 (.inl rfl)
    have s6 : Same H H6 := fun a u e => c6.2 a u (ne_of_none e np) (c5.2 a u (ne_of_none e fs) (c4.2 a u (ne_of_none e fl) (s2 a u e)))
    have ip6 := c6.1
    rw [putC] at ip6
    have e4 : H6 dl = some (.dK (nK (fun n => obV (o n)) (ks.take i ++ [one]))) := by rw [c6.2 _ _ npl.symm (c5.2 _ _ ne2 c4.1), nK_put hno]
    refine ⟨_, _, _, rfl, s6, f2.trans f6, ⟨⟨dx2, ip6⟩, e4, ⟨fu sv2 one kv, ?_, fun m hm => ?_⟩, ne2⟩⟩
    · rw [c6.2 _ _ nps.symm c5.1, nK_add, addK_new hno]
    · rw [List.mem_append, List.mem_singleton] at hm
      by_cases z : m = one
      · rw [z, fu_eq]; exact hkv3.sm fun a xs w => hP2.tup f6 w
      · rw [fu_ne z]; exact (kv2 m (hm.resolve_right z)).sm fun a xs w => hP2.tup f6 w
  rintro σ H2 ⟨y3, y4, y5, rfl, s2, f2, hP2⟩
  rw [List.length_map, List.take_of_length_le (Nat.le_refl _)] at hP2
  obtain ⟨⟨dx2, ip2⟩, il2, ⟨sv2, is2, kv2⟩, ne2⟩ := id hP2
  have npl : p ≠ dl := ne_val ip2 il2 fun z => by cases z
  walk_at "rd"
  refine r_lock il2 fun od H3 c3 => ?_
  have ip3 := c3.2 _ _ npl ip2
  walk_at "rd"
  refine ⟨dl, od, rfl, .inl ⟨_, c3.1, ?_⟩⟩
  refine for_go walk_keys (fun i σ H4 => ∃ (y3 : Option V), σ = [some (.ref r), some (.int b), some (.ref p), y3, y4, y5] ∧ H4 = H3) ⟨_, rfl, rfl⟩ (fun i σ H2 hi ⟨_, _, e⟩ => by rw [e]; exact c3.1) ?_ ?_
  · rintro i x σ H4 H5 hi ⟨y3, rfl, rfl⟩ ⟨rfl, kk, v, hk, rfl⟩
    rw [nK_len] at hi
    rw [nK_at hi] at hk
    cases hk
    have hci : ks[i] ∈ ks := List.getElem_mem hi
    show gName 3 (.int ks[i]) _ _ _
    generalize ks[i] = one at *
    walk_at "rd"
    refine r_dgetE (.inr ⟨_, c3.1⟩) (nK_in hci) ?_
    walk_at "rd"
    cases ho : o one with
    | none =>
      refine r_ndec (fun z => absurd rfl z) fun _ => ?_
      walk_at "rd"
      exact ⟨_, rfl, rfl⟩
    | some x =>
      refine r_ndec (fun _ => ?_) fun z => V.noConfusion z
      walk_at "rd"
      refine r_dgetE (.inr ⟨_, c3.1⟩) (nK_in hci) ?_
      rw [ho]
      walk_at "rd"
      refine r_dinE (.inr ⟨_, c3.1⟩) ?_
      rw [nK_val, if_pos (g.base hci ho), Option.isSome_some]
      walk_at "rd"
      exact ⟨_, rfl, rfl⟩
  rintro σ H4 ⟨y3, rfl, rfl⟩
  refine un c3.1 fun H5 c5 => ?_
  have s25 := same_lock il2 c3 (fun _ _ z => z) c5
  have hP5 := hP2.sm s25
  clear c3 c5 ip3
  obtain ⟨⟨dx5, ip5⟩, il5, _⟩ := id hP5
  walk_at "rd"
  refine r_lock il5 fun od H6 c6 => ?_
  have ip6 := c6.2 _ _ npl ip5
  walk_at "rd"
  refine ⟨dl, od, rfl, .inl ⟨_, c6.1, ?_⟩⟩
  refine for_go walk_keys (fun i σ H4 => ∃ (y3 : Option V), σ = [some (.ref r), some (.int b), some (.ref p), y3, y4, y5] ∧ H4 = H6) ⟨_, rfl, rfl⟩ (fun i σ H2 hi ⟨_, _, e⟩ => by rw [e]; exact c6.1) ?_ ?_
  · rintro i x σ H7 H8 hi ⟨y3, rfl, rfl⟩ ⟨rfl, kk, v, hk, rfl⟩
    rw [nK_len] at hi
    rw [nK_at hi] at hk
    cases hk
    have hci : ks[i] ∈ ks := List.getElem_mem hi
    show gName 3 (.int ks[i]) _ _ _
    generalize ks[i] = one at *
    obtain ⟨c, hc, _⟩ := g.ch hci
    walk_at "rd"
    refine ⟨dl, one, b, lvO ks o, c, rfl, by rw [bK_lvO]; exact .inr ⟨_, c6.1⟩, hc, b0, by omega, ?_⟩
    rw [decide_eq_true (hch one c hc)]
    walk_at "rd"
    exact ⟨_, rfl, rfl⟩
  rintro σ H7 ⟨y3, rfl, rfl⟩
  refine un c6.1 fun H8 c8 => ?_
  have s28 := s25.trans (same_lock il5 c6 (fun _ _ z => z) c8)
  have hP8 := hP2.sm s28
  clear c6 c8 ip6
  obtain ⟨⟨dx8, ip8⟩, il8, ⟨sv8, is8, kv8⟩, ne8⟩ := id hP8
  walk_at "rd"
  refine r_lock il8 fun od H9 c9 => ?_
  have ip9 := c9.2 _ _ npl ip8
  have is9 := c9.2 _ _ ne8.symm is8
  have hP9 : PkR A H9 p dl ds b (comeOfK ks) ks o k := ⟨⟨dx8, ip9⟩, .inr ⟨_, c9.1⟩, ⟨sv8, is9, fun m hm => (kv8 m hm).sm fun a xs z => c9.2 _ _ (ne_val z il8 fun z => by cases z) z⟩⟩
  walk_at "rd"
  refine ⟨dl, od, rfl, .inl ⟨_, c9.1, ?_⟩⟩
  refine for_go walk_keys (fun i σ H4 => ∃ (y3 : Option V), σ = [some (.ref r), some (.int b), some (.ref p), y3, y4, y5] ∧ Same H9 H4) ⟨_, rfl, fun _ _ z => z⟩ (fun i σ H2 hi ⟨_, _, s⟩ => s _ _ c9.1) ?_ ?_
  · rintro i x σ H10 H11 hi ⟨y3, rfl, s10⟩ ⟨rfl, kk, v, hk, rfl⟩
    rw [nK_len] at hi
    rw [nK_at hi] at hk
    cases hk
    have hci : ks[i] ∈ ks := List.getElem_mem hi
    show gName 3 (.int ks[i]) _ _ _
    generalize ks[i] = one at *
    walk_at "rd"
    refine u_read (hP9.sm s10) hci g fun H12 s12 => ?_
    walk_at "rd"
    exact ⟨_, rfl, s10.trans s12⟩
  rintro σ H10 ⟨y3, rfl, s10⟩
  refine un (s10 _ _ c9.1) fun H11 c11 => ?_
  have s211 := s28.trans (same_lock il8 c9 s10 c11)
  walk_at "rd"
  exact h1 p dl ds H11 (s2.trans s211) np fl fs (hP2.sm s211)
def sp_l_made (A : Ad) : Sp := fun vs H Q E => ∃ (a : Addr) (ns : List Int) (s : Int) (many : Nat), vs = [.ref a, .int s] ∧ H a = some (.lst (ns.map V.int)) ∧ ns.length = 3 * many ∧ 0 < many ∧ many ≤ 30 ∧
  ∀ (L dk dt : Addr) (H' : Hp) (ks : List Int) (o : Int → Option Int) (k : Int → Kept) (tx : Int → List Nat), Same H H' → H L = none → H dk = none → H dt = none → dk ≠ dt → H' L = some (.lst [.ref dk, .ref dt]) → KeptAt H' dk ks o k → TextsAt H' dt ks tx →
    Gd ks o k tx → ks.length = many → (∀ n ∈ ks, 0 ≤ n) → (∀ n ∈ ks, (tx n).length ≤ 1000) → Q (.ref L) H'
def t_l_made (A : Ad) (E : XK) : TS := tSeq (tAsg (tOp rDiv (tCB (rLenG A.K) (tCons (tVar 0) (tNil))) (tC (.int 3))) (gName 2)) (tSeq (tAsg (tCall (sp_l_names A) [] E0 (tCons (tSl (rSl2 A.K) (tVar 0) (tPart (tOp rMul (tC (.int 2)) (tVar 2))) (tNoPart)) (tNil))) (gName 3)) (tSeq (tAsg (tLc (iRng1 (tCons (tVar 2) (tNil))) (gName 5) (tYes) (tOp (rIx A.K) (tVar 3) (tOp rMod (tOp rAdd3 (tVar 5) (tOp rDiv (tVar 1) (tC (.int 2)))) (tVar 2))) [5]) (gName 4)) (tCut (tIfS (tTest (tOp (rEqG A.K) (tOp rMod (tVar 1) (tC (.int 2))) (tC (.int 1)))) (tDrop (tBM0 A.K "list" rReverse (tVar 4))) (tNext)) (tSeq (tAsg (tDNewK) (gName 6)) (tSeq (tAsg (tDNewK) (gName 7)) (tSeq (tFor (iRng1 (tCons (tVar 2) (tNil))) (gName 5) (tSeq (tAsg (tOp (rIx A.K) (tVar 0) (tVar 5)) (gName 8)) (tSeq (tAsg (tOp (rIx A.K) (tVar 0) (tOp rAdd3 (tVar 2) (tVar 5))) (gName 9)) (tIfS (tOr (tTest (tOp (rEqG A.K) (tVar 5) (tC (.int 0)))) (tTest (tOp (rEqG A.K) (tOp rMod (tVar 8) (tC (.int 5))) (tC (.int 0))))) (tSeq (sDPut (tVar 7) (tOp (rIx A.K) (tVar 4) (tVar 5)) (tCall (sp_l_text_by A) [] E0 (tCons (tOp rDiv (tVar 9) (tC (.int 9))) (tCons (tCall (sp_l_size A) [] E0 (tCons (tVar 9) (tNil))) (tNil))))) (sDPut (tVar 6) (tOp (rIx A.K) (tVar 4) (tVar 5)) (tTup (tCons (tC .non) (tCons (tDGet (tVar 7) (tOp (rIx A.K) (tVar 4) (tVar 5))) (tNil)))))) (tSeq (tAsg (tOp (rIx A.K) (tVar 4) (tOp rSub (tVar 5) (tC (.int 1)))) (gName 10)) (tCut (tIfS (tTest (tOp (rGt) (tOp rMod (tVar 8) (tC (.int 5))) (tC (.int 2)))) (tAsg (tOp (rIx A.K) (tVar 4) (tOp rMod (tOp rDiv (tVar 8) (tC (.int 5))) (tVar 5))) (gName 10)) (tNext)) (tSeq (sDPut (tVar 7) (tOp (rIx A.K) (tVar 4) (tVar 5)) (tCall (sp_l_next_text A) [] E0 (tCons (tDGet (tVar 7) (tVar 10)) (tCons (tVar 9) (tNil))))) (sDPut (tVar 6) (tOp (rIx A.K) (tVar 4) (tVar 5)) (tTup (tCons (tVar 10) (tCons (tCall (sp_l_wide_change A) [] E0 (tCons (tDGet (tVar 7) (tVar 10)) (tCons (tDGet (tVar 7) (tOp (rIx A.K) (tVar 4) (tVar 5))) (tCons (tOp rMod (tOp (rIx A.K) (tVar 0) (tOp rAdd3 (tOp rMul (tC (.int 2)) (tVar 2)) (tVar 5))) (tC (.int 3))) (tNil))))) (tNil)))))))))))) (tRet (tLst (tCons (tVar 6) (tCons (tVar 7) (tNil)))))))))))
theorem p_l_made (A : Ad) {vs : List V} {H : Hp} {Q : VK} {E : XK} (h : sp_l_made A vs H Q E) : t_l_made A E { nx := fun _ H2 => Q .non H2, rt := Q } (start ["_law_cells_here", "_law_shift", "_law_many", "_law_names_here", "_law_order", "_law_k", "_law_kept", "_law_texts", "_law_one", "_law_two", "_law_base"] vs) H := by
  obtain ⟨a, ns, s, many, rfl, hS, hl, hm0, hm1, h1⟩ := h
  (change t_l_made A E _ [_, _, none, none, none, none, none, none, none, none, none] _; unfold t_l_made; walk_at "rd")
  rw [List.length_map, hl, show (((3 * many : Nat) : Int) / 3) = (many : Int) by omega]
  walk_at "rd"
  refine r_slL (.of hS) fun p1 H1 np1 s1 e1 => ?_
  rw [show (2 * (many : Int)) = ((2 * many : Nat) : Int) by omega, cutV_drop, ← List.map_drop] at e1
  walk_at "rd"
  refine ⟨p1, _, rfl, e1, by rw [List.length_drop]; omega, fun nm p2 H2 hnm hris hpos s2 np2 e2 => ?_⟩
  rw [List.length_drop, hl] at hnm
  have hnm2 : nm.length = many := by omega
  walk_at "rd"
  have s02 := s1.trans s2
  obtain ⟨f, ef⟩ : ∃ f : Nat → Int, f = fun (k : Nat) => nm.getD ((((k : Nat) : Int) + s / 2) % (many : Int)).toNat 0 := ⟨_, rfl⟩
  have hod := turned_names (s := s / 2) hnm2 hris hm0
  rw [← ef] at hod
  refine lc_go (walk_rng0 (n := (many : Int).toNat)) (by omega) (fun D i acc H3 => H2 D = none ∧ Same H2 H3 ∧ acc = ((List.range i).map f).map V.int) (fun D H3 hD s3 _ => ⟨hD, s3, rfl⟩) (fun _ _ _ _ _ _ => trivial) ?_ ?_
  · rintro D i x acc H3 H4 hi ha e ⟨hD, s3, rfl⟩ ⟨rfl, rfl⟩
    walk_at "rd"
    obtain ⟨j, ej⟩ : ∃ j : Nat, ((i : Int) + s / 2) % (many : Int) = j := ⟨(((i : Int) + s / 2) % (many : Int)).toNat, by have := Int.emod_nonneg ((i : Int) + s / 2) (show (many : Int) ≠ 0 by omega); omega⟩
    have hj : j < nm.length := by have := Int.emod_lt_of_pos ((i : Int) + s / 2) (show (0 : Int) < many by omega); omega
    have efi : nm[j]? = some (f i) := by
      rw [ef]
      show _ = some (nm.getD (((i : Int) + s / 2) % (many : Int)).toNat 0)
      rw [ej, Int.toNat_natCast]
      exact getD_at hj
    rw [ej]
    refine r_ixL (.of (s3 _ _ e2)) (v := .int (f i)) (atI_nat (by rw [List.getElem?_map, efi]; rfl)) ?_
    refine lc_end ha (by omega) e fun H5 c5 => ⟨hD, sm_chg s3 hD c5, ?_⟩
    rw [List.range_succ, List.map_append, List.map_append]
    rfl
  rintro po acc H3 ⟨npo, s3, rfl⟩ e3
  rw [Int.toNat_natCast] at e3
  walk_at "rd"
  refine r_cut (fun σ' H4 => ∃ od : List Int, σ' = [some (.ref a), some (.int s), some (.int many), some (.ref p2), some (.ref po), none, none, none, none, none, none] ∧ Same H H4 ∧ H4 po = some (.lst (od.map V.int)) ∧ od.Nodup ∧ od.length = many ∧ ∀ x ∈ od, 0 ≤ x) ?_ ?_
  · walk_at "rd"
    refine r_dec (fun z => ?_) fun z => ?_
    · walk_at "rd"
      refine r_rev e3 fun H4 c4 => ?_
      walk_at "rd"
      refine ⟨((List.range many).map f).reverse, rfl, sm_chg (s02.trans s3) (s02.free npo) c4, by rw [c4.1, ← List.map_reverse], (List.pairwise_reverse.mpr (hod.1.imp fun h => Ne.symm h)), by simp, fun x hx => hpos x (hod.2 x (List.mem_reverse.mp hx))⟩
    · walk_at "rd"
      exact ⟨(List.range many).map f, rfl, s02.trans s3, e3, hod.1, by simp, fun x hx => hpos x (hod.2 x hx)⟩
  rintro σ' H4 ⟨od, rfl, s04, e4, hnd, hol, hop⟩
  clear hod ef
  walk_at "rd"
  intro dk H5 nk s5 e5
  walk_at "rd"
  intro dt H6 nt s6 e6
  walk_at "rd"
  have dkt : dk ≠ dt := fun z => by rw [← z, e5] at nt; cases nt
  have nt4 : H4 dt = none := s5.free nt
  have hS4 := s04 _ _ hS
  have ordr : ∀ {X : Hp} {j : Nat} {Q : VK}, Same H4 X → (hj : j < many) → Q (.int (od.getD j 0)) X → rIx A.K (.ref po) (.int (j : Int)) X Q := fun {X j Q} sx hj q =>
    r_ixL (.of (sx _ _ e4)) (atI_nat (by rw [List.getElem?_map, getD_at (show j < od.length by omega)]; rfl)) q
  have cel : ∀ {X : Hp} {j : Nat} {Q : VK}, Same H4 X → (hj : j < 3 * many) → (∀ c : Int, Q (.int c) X) → rIx A.K (.ref a) (.int (j : Int)) X Q := fun {X j Q} sx hj q =>
    r_ixL (.of (sx _ _ hS4)) (atI_nat (by rw [List.getElem?_map, getD_at (show j < ns.length by omega)]; rfl)) (q _)
  refine for_go (walk_rng0 (n := (many : Int).toNat)) (fun i σ H7 => ∃ (y5 y8 y9 y10 : Option V) (o : Int → Option Int) (k : Int → Kept) (tx : Int → List Nat), σ = [some (.ref a), some (.int s), some (.int many), some (.ref p2), some (.ref po), y5, some (.ref dk), some (.ref dt), y8, y9, y10] ∧ Same H4 H7 ∧
      KeptAt H7 dk (od.take i) o k ∧ TextsAt H7 dt (od.take i) tx ∧ Gd (od.take i) o k tx ∧ ∀ n ∈ od.take i, (tx n).length ≤ 400 + 2 * i)
    ⟨none, none, none, none, fun _ => none, fun _ => .tx [], fun _ => [], rfl, s5.trans s6, ⟨fun _ => 0, s6 _ _ e5, fun n hn => by simp at hn⟩, e6, Gd.nil _, fun n hn => by simp at hn⟩ (fun _ _ _ _ _ => trivial) ?_ ?_
  · rintro i x σ H7 H8 hi ⟨y5, y8, y9, y10, o, k, tx, rfl, s7, hK, hT, g, hsz⟩ ⟨rfl, rfl⟩
    have hi : i < many := by omega
    have hil : i < od.length := by omega
    have ht : od.take (i + 1) = od.take i ++ [od.getD i 0] := by
      rw [take_succ hil]
      congr 2
      have := getD_at hil
      rw [List.getElem?_eq_getElem hil] at this
      exact Option.some.inj this
    have hno : od.getD i 0 ∉ od.take i := fun z => by
      have nd := hnd.sublist (List.take_sublist (i + 1) od)
      rw [ht, List.nodup_append] at nd
      exact nd.2.2 _ z _ (by simp) rfl
    have ordi : ∀ {X : Hp} {Q : VK}, Same H4 X → Q (.int (od.getD i 0)) X → rIx A.K (.ref po) (.int (i : Int)) X Q := fun {X Q} sx q => ordr sx hi q
    rw [ht]
    generalize od.getD i 0 = one at *
    have tl : (od.take i).length = i := by rw [List.length_take]; omega
    walk_at "rd"
    refine cel s7 (by omega) fun c1 => ?_
    walk_at "rd"
    rw [show ((many : Int) + (i : Nat)) = ((many + i : Nat) : Int) by omega]
    refine cel s7 (by omega) fun c2 => ?_
    walk_at "rd"
    -- a text laid, then what is kept
    have lay : ∀ {X : Hp} {z : List Nat} {P : Hp → Prop}, Same H8 X → (∀ X', Chg dt (.dK (putK (nK (fun m => V.str (S (tx m))) (od.take i)) (.inl one) (.str (S z)))) X X' → P X') → ∃ a H4, V.ref dt = .ref a ∧ DPut X a (.int one) (.str (S z)) H4 ∧ P H4 := fun {X z P} sx h =>
      r_dputE (sx _ _ hT) (szl (by rw [nK_len]; omega)) h
    have fin : ∀ {X X' Y : Hp} {z : List Nat} {t : Addr} {b : Option Int} {kv : V} {kk : Kept} {y10 : Option V}, Same H8 X → Chg dt (.dK (putK (nK (fun m => V.str (S (tx m))) (od.take i)) (.inl one) (.str (S z)))) X X' → Same X' Y → Y t = some (.tup [obV b, kv]) → KvAt Y kv kk → Tx (400 + 2 * (i + 1)) z →
        (∀ x, b = some x → x ∈ od.take i) → (b = none → kk = .tx z) → (∀ x, b = some x → ∃ j g c, kk = .ch j g c ∧ Fits (tx x) j g ∧ doneL (tx x) j g c = z) →
        ∃ a1 H4', V.ref dk = .ref a1 ∧ DPut Y a1 (.int one) (.ref t) H4' ∧ ∃ (y5 y8 y9 y10' : Option V) (o : Int → Option Int) (k : Int → Kept) (tx : Int → List Nat), [some (.ref a), some (.int s), some (.int many), some (.ref p2), some (.ref po), some (.int i), some (.ref dk), some (.ref dt), some (.int c1), some (.int c2), y10] = [some (.ref a), some (.int s), some (.int many), some (.ref p2), some (.ref po), y5, some (.ref dk), some (.ref dt), y8, y9, y10'] ∧ Same H4 H4' ∧
      KeptAt H4' dk (od.take i ++ [one]) o k ∧ TextsAt H4' dt (od.take i ++ [one]) tx ∧ Gd (od.take i ++ [one]) o k tx ∧ ∀ n ∈ od.take i ++ [one], (tx n).length ≤ 400 + 2 * (i + 1) := fun {X X' Y z t b kv kk y10} sX cX sY et hkv hz hb hw hf => by
      have mvv : ∀ b u, b ≠ dt → H8 b = some u → Y b = some u := fun b u n e => sY _ _ (cX.2 b u n (sX _ _ e))
      have hKY : KeptAt Y dk (od.take i) o k := hK.mv (fun kvs e => mvv _ _ dkt e) fun a xs e => mvv _ _ (ne_val e hT fun z => by cases z) e
      obtain ⟨kvs, ek, lk, put⟩ := hKY.put (n := one) et hkv
      refine r_dputE ek (szl (by rw [lk]; omega)) fun Y' cY => ?_
      have eT : Y' dt = some (.dK (nK (fun m => V.str (S (fu tx one z m))) (od.take i ++ [one]))) := by
        rw [cY.2 _ _ dkt.symm (sY _ _ cX.1), nK_addF (g := fun l => V.str (S l)), addK_new hno]
      have hKK := put Y' cY
      rw [addK_new hno] at hKK
      refine ⟨_, _, _, _, fu o one b, fu k one kk, fu tx one z, rfl, sm_chg ((sm_chg (s7.trans sX) nt4 cX).trans sY) nk cY, hKK, eT, g.add1 hno (by omega) hb (hz.mono (by omega)) hw hf, fun n hn => ?_⟩
      rw [List.mem_append, List.mem_singleton] at hn
      by_cases zz : n = one
      · rw [zz, fu_eq]; exact hz.1
      · rw [fu_ne zz]
        have := hsz n (hn.resolve_right zz)
        omega
    have eTX : ∀ {X X' : Hp} {z : List Nat}, Chg dt (.dK (putK (nK (fun m => V.str (S (tx m))) (od.take i)) (.inl one) (.str (S z)))) X X' → X' dt = some (.dK (nK (fun m => V.str (S (fu tx one z m))) (od.take i ++ [one]))) := fun {X X' z} cX => by
      rw [cX.1, nK_addF (g := fun l => V.str (S l)), addK_new hno]
    have hone : one ∈ od.take i ++ [one] := by simp
    refine r_dec (fun z => ?a1) fun z => ?b1
    case' b1 =>
      walk_at "rd"
      refine r_dec (fun z2 => ?a2) fun z2 => ?b2
    case b2 =>
      walk_at "rd"
      rw [show ((i : Nat) : Int) - 1 = ((i - 1 : Nat) : Int) by omega]
      refine ordr s7 (by omega) ?_
      walk_at "rd"
      have inT : ∀ {j : Nat}, j < i → od.getD j 0 ∈ od.take i := fun {j} hj => by
        have h := getD_at (show j < od.length by omega)
        exact List.mem_of_getElem? (i := j) (by rw [List.getElem?_take, if_pos hj]; exact h)
      refine r_cut (fun σ' H9 => ∃ bs : Int, bs ∈ od.take i ∧ σ' = [some (.ref a), some (.int s), some (.int many), some (.ref p2), some (.ref po), some (.int i), some (.ref dk), some (.ref dt), some (.int c1), some (.int c2), some (.int bs)] ∧ H9 = H8) ?_ ?_
      · walk_at "rd"
        refine r_dec (fun w => ?_) fun w => ?_
        · walk_at "rd"
          obtain ⟨j, ej⟩ : ∃ j : Nat, c1 / 5 % (i : Int) = j := ⟨(c1 / 5 % (i : Int)).toNat, by have := Int.emod_nonneg (c1 / 5) (show (i : Int) ≠ 0 by omega); omega⟩
          have hj : j < i := by have := Int.emod_lt_of_pos (c1 / 5) (show (0 : Int) < i by omega); omega
          rw [ej]
          refine ordr s7 (by omega) ?_
          walk_at "rd"
          exact ⟨_, inT hj, rfl, rfl⟩
        · walk_at "rd"
          exact ⟨_, inT (by omega), rfl, rfl⟩
      rintro σ' H9 ⟨bs, hbs, rfl, rfl⟩
      have bne : bs ≠ one := fun z => hno (z ▸ hbs)
      have sb := hsz bs hbs
      walk_at "rd"
      refine r_dgetE (.of hT) (nK_in hbs) ?_
      walk_at "rd"
      refine u_next_text (by omega) (g.sz bs hbs).2 fun z X sX lz oz => ?_
      walk_at "rd"
      refine ordi (s7.trans sX) ?_
      refine lay sX fun X' cX => ?_
      have eT := eTX cX
      have s4X' := sm_chg (s7.trans sX) nt4 cX
      walk_at "rd"
      refine r_dgetE (.of eT) (nK_in (List.mem_append_left _ hbs)) ?_
      rw [fu_ne bne]
      walk_at "rd"
      refine ordi s4X' ?_
      refine r_dgetE (.of eT) (nK_in hone) ?_
      rw [fu_eq]
      walk_at "rd"
      rw [show (2 * (many : Int) + (i : Nat)) = ((2 * many + i : Nat) : Int) by omega]
      refine cel s4X' (by omega) fun c3 => ?_
      walk_at "rd"
      refine u_wide_change (by omega) (by omega) fun t2 Y2 j gg cc sY2 nt2 eY2 hf hd => ?_
      walk_at "rd"
      intro t Y3 nt3 sY3 eY3
      walk_at "rd"
      refine ordi (s4X'.trans (sY2.trans sY3)) ?_
      exact fin (b := some bs) sX cX (sY2.trans sY3) eY3 (show KvAt Y3 (.ref t2) (.ch j gg cc) from ⟨t2, rfl, sY3 _ _ eY2⟩) ⟨by omega, oz⟩ (fun x e => by cases e; exact hbs) (fun e => by cases e) fun x e => by cases e; exact ⟨_, _, _, rfl, hf, hd⟩
    all_goals
      walk_at "rd"
      refine u_size fun r r0 r1 => ?_
      walk_at "rd"
      refine u_text_by r0 (by omega) fun z X lz oz sX => ?_
      walk_at "rd"
      refine ordi (s7.trans sX) ?_
      refine lay sX fun X' cX => ?_
      have eT := eTX cX
      have s4X' := sm_chg (s7.trans sX) nt4 cX
      walk_at "rd"
      refine ordi s4X' ?_
      refine r_dgetE (.of eT) (nK_in hone) ?_
      rw [fu_eq]
      walk_at "rd"
      intro t Y nt2 sY eY
      walk_at "rd"
      refine ordi (s4X'.trans sY) ?_
      exact fin (b := none) sX cX sY eY (show KvAt Y (.str (S z)) (.tx z) from rfl) ⟨by omega, oz⟩ (fun x e => by cases e) (fun _ => rfl) fun x e => by cases e
  · rintro σ H7 ⟨y5, y8, y9, y10, o, k, tx, rfl, s7, hK, hT, g, hsz⟩
    rw [Int.toNat_natCast, ← hol, List.take_of_length_le (Nat.le_refl _)] at hK hT g hsz
    walk_at "rd"
    intro L H8 nL s8 e8
    have s48 := s7.trans s8
    refine h1 L dk dt H8 od o k tx (s04.trans s48) ((s04.trans s7).free nL) (s04.free nk) (s04.free nt4) dkt e8 (hK.sm s8) (s8 _ _ hT) g hol hop fun n hn => ?_
    have := hsz n hn
    omega
def sp_l_seen (A : Ad) : Sp := fun vs H Q E => ∃ (p dl ds d : Addr) (b co f : Int) (ys ks : List Int) (o : Int → Option Int) (k : Int → Kept) (tx : Int → List Nat), vs = [.ref p, .ref d, .int f] ∧ PkAt A H p dl ds b co ys o k ∧ KeptAt H d ks o k ∧ ys.Perm ks ∧ ys.Pairwise (· < ·) ∧ ks.length < 64 ∧ Gd ys o k tx ∧
  ∀ H', Same H H' → Q (.bl true) H'
theorem u_seen {A : Ad} {p dl ds d : Addr} {b co f : Int} {ys ks : List Int} {o : Int → Option Int} {k : Int → Kept} {tx : Int → List Nat} {H : Hp} {Q : VK} {E : XK} (h1 : PkAt A H p dl ds b co ys o k) (h2 : KeptAt H d ks o k) (h3 : ys.Perm ks) (h4 : ys.Pairwise (· < ·)) (h5 : ks.length < 64) (g : Gd ys o k tx)
    (q : ∀ H', Same H H' → Q (.bl true) H') : sp_l_seen A [.ref p, .ref d, .int f] H Q E := ⟨p, dl, ds, d, b, co, f, ys, ks, o, k, tx, rfl, h1, h2, h3, h4, h5, g, q⟩
def t_l_seen (A : Ad) (E : XK) : TS := tSeq (tAsg (tCB (rSortedDI) (tCons (tVar 1) (tNil))) (gName 3)) (tCut (tIfS (tAnd (tTest (tOp (rEqG A.K) (tOp rMod (tVar 2) (tC (.int 4))) (tC (.int 1)))) (tOr (tTest (tOp (rNeG A.K) (tMeth A.cPack "numbers" (sp_P_numbers A) [] E0 (tVar 0) (tNil)) (tVar 3))) (tTest (tOp (rNeG A.K) (tCB (rListG A.K) (tCons (tMeth A.cPack "bases" (sp_P_bases A) [] E0 (tVar 0) (tNil)) (tNil))) (tVar 3))))) (tRet (tC (.bl false))) (tNext)) (tSeq (tAsg (tLc (iList A.K (tVar 3)) (gName 5) (tYes) (tOp (rIx A.K) (tDGet (tVar 1) (tVar 5)) (tC (.int 0))) [5]) (gName 4)) (tCut (tIfS (tAnd (tTest (tOp (rEqG A.K) (tOp rMod (tVar 2) (tC (.int 4))) (tC (.int 2)))) (tTest (tOp (rNeG A.K) (tLc (iList A.K (tVar 3)) (gName 5) (tYes) (tMeth A.cPack "base" (sp_P_base A) [] E0 (tVar 0) (tCons (tVar 5) (tNil))) [5]) (tVar 4)))) (tRet (tC (.bl false))) (tNext)) (tSeq (tAsg (tSl (rSl2 A.K) (tVar 3) (tPart (tUn rNeg (tC (.int 1)))) (tNoPart)) (gName 6)) (tSeq (tAsg (tLc (iList A.K (tVar 6)) (gName 5) (tYes) (tCall (sp_l_chain A) [] E0 (tCons (tVar 1) (tCons (tVar 5) (tNil)))) [5]) (gName 4)) (tCut (tIfS (tAnd (tTest (tOp (rEqG A.K) (tOp rMod (tVar 2) (tC (.int 4))) (tC (.int 3)))) (tTest (tOp (rNeG A.K) (tLc (iList A.K (tVar 6)) (gName 5) (tYes) (tMeth A.cPack "chain" (sp_P_chain A) [] E0 (tVar 0) (tCons (tVar 5) (tNil))) [5]) (tVar 4)))) (tRet (tC (.bl false))) (tNext)) (tRet (tCall (sp_l_rows_are A) [] E0 (tCons (tMeth A.cPack "rows" (sp_P_rows A) [] E0 (tVar 0) (tNil)) (tCons (tVar 1) (tNil)))))))))))
theorem p_l_seen (A : Ad) (pk : PkOk A) {vs : List V} {H : Hp} {Q : VK} {E : XK} (h : sp_l_seen A vs H Q E) : t_l_seen A E { nx := fun _ H2 => Q .non H2, rt := Q } (start ["_law_pack", "_law_kept", "_law_first", "_law_names_here", "_law_due", "_law_one", "_law_last"] vs) H := by
  obtain ⟨p, dl, ds, d, b, co, f, ys, ks, o, k, tx, rfl, hP, hK, hp, hs, hl, g, h1⟩ := h
  have yl : ys.length < 64 := by rw [hp.length_eq]; exact hl
  have hmem : ∀ {n}, n ∈ ys ↔ n ∈ ks := fun {n} => hp.mem_iff
  obtain ⟨⟨dx, ip⟩, _⟩ := id hP
  obtain ⟨ka, ek, hka⟩ := id hK
  obtain ⟨cf, hcf⟩ := Classical.axiomOfChoice (r := fun (n : Int) (c : List Int) => n ∈ ys → Ch (lvO ys o) n c) fun n => by
    by_cases h : n ∈ ys
    · obtain ⟨c, hc, _⟩ := g.ch h; exact ⟨c, fun _ => hc⟩
    · exact ⟨[], fun z => absurd z h⟩
  have hcl : ∀ n ∈ ys, (cf n).length ≤ 1000 := fun n h => by have := (hcf n h).len; rw [len_lvO] at this; omega
  (change t_l_seen A E _ [_, _, _, none, none, none, none] _; unfold t_l_seen; walk_at "rd")
  refine r_sortK (.of ek) hl fun zs h2 h3 pn H1 nn s1 e1 => ?_
  rw [rising_eq (h2.trans hp.symm) h3 hs] at e1
  walk_at "rd"
  refine r_cut (fun σ' H2 => σ' = [some (.ref p), some (.ref d), some (.int f), some (.ref pn), none, none, none] ∧ Same H1 H2) ?_ ?_
  · walk_at "rd"
    refine r_dec (fun z => ?_) fun z => ?_
    · have ip1 := s1 _ _ ip
      walk_at "rd"
      refine u_numbers (hP.sm s1).r hs yl fun q H2 nq s2 e2 => ?_
      walk_at "rd"
      refine r_neSame (inD ys) (inD_dp (.of e2)) (inD_dp (.of (s2 _ _ e1))) (inD_shaped _) ?_
      have ip2 := s2 _ _ ip1
      walk_at "rd"
      refine ⟨p, dl, ds, b, co, ys, o, k, rfl, (hP.sm (s1.trans s2)).r, fun q3 H3 nq3 s3 e3 => ?_⟩
      walk_at "rd"
      refine r_listD (.of e3) fun q4 H4 nq4 s4 e4 => ?_
      rw [nK_list] at e4
      walk_at "rd"
      refine r_neSame (inD ys) (inD_dp (.of e4)) (inD_dp (.of (s4 _ _ (s3 _ _ (s2 _ _ e1))))) (inD_shaped _) ?_
      walk_at "rd"
      exact ⟨rfl, s2.trans (s3.trans s4)⟩
    · walk_at "rd"
      exact ⟨rfl, fun _ _ z => z⟩
  rintro σ' H2 ⟨rfl, s2⟩
  have s02 := s1.trans s2
  have e12 := s2 _ _ e1
  clear e1
  walk_at "rd"
  refine lc_map (fun n => obV (o n)) (.of e12) (by omega) (fun n X R hn sX q => ?_) fun pd H3 s3 npd ed => ?_
  · obtain ⟨kv, et, _⟩ := hka n (hmem.mp hn)
    have et := sX _ _ (s02 _ _ et)
    walk_at "rd"
    refine r_dgetE (.of (sX _ _ (s02 _ _ ek))) (nK_in (hmem.mp hn)) ?_
    walk_at "rd"
    exact q X fun _ _ z => z
  walk_at "rd"
  have s03 := s02.trans s3
  have e13 := s3 _ _ e12
  refine r_cut (fun σ' H4 => σ' = [some (.ref p), some (.ref d), some (.int f), some (.ref pn), some (.ref pd), none, none] ∧ Same H3 H4) ?_ ?_
  · walk_at "rd"
    refine r_dec (fun z => ?_) fun z => ?_
    · walk_at "rd"
      refine lc_map (fun n => obV (o n)) (.of e13) (by omega) (fun n X R hn sX q => ?_) fun pb H4 s4 npb eb => ?_
      · have ipX := sX _ _ (s03 _ _ ip)
        walk_at "rd"
        exact ⟨p, dl, ds, b, co, ys, o, k, _, rfl, (hP.sm (s03.trans sX)).r, .inl ⟨n, rfl, hn, q X fun _ _ z => z⟩⟩
      walk_at "rd"
      refine r_neSame (obsD ys o) (obsD_dp (.of eb)) (obsD_dp (.of (s4 _ _ ed))) (obsD_ok _ _) ?_
      walk_at "rd"
      exact ⟨rfl, s4⟩
    · walk_at "rd"
      exact ⟨rfl, fun _ _ z => z⟩
  rintro σ' H4 ⟨rfl, s4⟩
  have s04 := s03.trans s4
  have e14 := s4 _ _ e13
  clear e12 e13
  walk_at "rd"
  refine r_slL (.of e14) fun pl H5 npl s5 e5 => ?_
  rw [cutV_last, List.length_map, ← List.map_drop] at e5
  have hsub : ∀ x ∈ ys.drop (ys.length - 1), x ∈ ys := fun x hx => List.mem_of_mem_drop hx
  have hnd : (ys.drop (ys.length - 1)).Nodup := g.nd.sublist (List.drop_sublist _ _)
  have hdl : (ys.drop (ys.length - 1)).length ≤ 1000 := by rw [List.length_drop]; omega
  generalize ys.drop (ys.length - 1) = l at *
  walk_at "rd"
  have s05 := s04.trans s5
  refine lc_chains cf hnd (.of e5) hdl (fun n X R hn sX q => ?_) fun pc H6 s6 npc hL => ?_
  · walk_at "rd"
    exact u_l_chain (hK.sm (s05.trans sX)).r (Ch.mem_eq (fun n => hmem) (hcf n (hsub n hn))) (by have := hcl n (hsub n hn); omega) q
  walk_at "rd"
  have s06 := s05.trans s6
  have e6 := s6 _ _ e5
  refine r_cut (fun σ' H7 => σ' = [some (.ref p), some (.ref d), some (.int f), some (.ref pn), some (.ref pc), none, some (.ref pl)] ∧ Same H6 H7) ?_ ?_
  · walk_at "rd"
    refine r_dec (fun z => ?_) fun z => ?_
    · walk_at "rd"
      refine lc_chains cf hnd (.of e6) hdl (fun n X R hn sX q => ?_) fun pc2 H7 s7 npc2 hL2 => ?_
      · have ipX := sX _ _ (s06 _ _ ip)
        walk_at "rd"
        exact ⟨p, dl, ds, b, co, ys, o, k, _, rfl, (hP.sm (s06.trans sX)).r, .inl ⟨n, cf n, rfl, hsub n hn, hcf n (hsub n hn), hcl n (hsub n hn), q⟩⟩
      walk_at "rd"
      refine r_neSame (chsD l cf) hL2.dp (hL.sm fun _ _ z => s7 _ _ z).dp (chsD_ok _ _) ?_
      walk_at "rd"
      exact ⟨rfl, s7⟩
    · walk_at "rd"
      exact ⟨rfl, fun _ _ z => z⟩
  rintro σ' H7 ⟨rfl, s7⟩
  have s07 := s06.trans s7
  have ip7 := s07 _ _ ip
  walk_at "rd"
  refine ⟨p, dl, ds, b, co, ys, o, k, rfl, (hP.sm s07).r, hs, yl, fun r H8 s8 nr hR => ?_⟩
  walk_at "rd"
  exact u_rows_are hR (hK.sm (s07.trans s8)) hp hs hl g (fun _ _ => rfl) (fun _ _ => rfl) fun H9 s9 => h1 H9 (s07.trans (s8.trans s9))
def sp_l_asked (A : Ad) : Sp := fun vs H Q E => ∃ (p dl ds dk dt ph : Addr) (b co c : Int) (ys ks ts : List Int) (o : Int → Option Int) (k : Int → Kept) (tx : Int → List Nat) (nh N : Nat), vs = [.ref p, .ref dk, .ref dt, .int c, .ref ph] ∧
  Wo A H p dl ds dk dt ph b co ys ks ts o k tx nh ∧ Pu b co ys ks ts o k tx N ∧ 0 < ks.length ∧ ks.length < 64 ∧ nh < 1000 ∧ ∀ H', Wo A H' p dl ds dk dt ph b co ys ks ts o k tx (nh + 1) → Kp [ph] H H' → Q (.bl true) H'
theorem u_asked {A : Ad} {p dl ds dk dt ph : Addr} {b co c : Int} {ys ks ts : List Int} {o : Int → Option Int} {k : Int → Kept} {tx : Int → List Nat} {nh N : Nat} {H : Hp} {Q : VK} {E : XK} (w : Wo A H p dl ds dk dt ph b co ys ks ts o k tx nh) (u : Pu b co ys ks ts o k tx N) (h0 : 0 < ks.length) (h1 : ks.length < 64) (h2 : nh < 1000)
    (q : ∀ H', Wo A H' p dl ds dk dt ph b co ys ks ts o k tx (nh + 1) → Kp [ph] H H' → Q (.bl true) H') : sp_l_asked A [.ref p, .ref dk, .ref dt, .int c, .ref ph] H Q E := ⟨p, dl, ds, dk, dt, ph, b, co, c, ys, ks, ts, o, k, tx, nh, N, rfl, w, u, h0, h1, h2, q⟩
def t_l_asked (A : Ad) (E : XK) : TS := tSeq (tAsg (tCB (rSortedDI) (tCons (tVar 1) (tNil))) (gName 5)) (tSeq (tAsg (tOp (rIx A.K) (tVar 5) (tOp rMod (tOp rDiv (tVar 3) (tC (.int 3))) (tCB (rLenG A.K) (tCons (tVar 5) (tNil))))) (gName 6)) (tSeq (tAsg (tLst (tCons (tMeth A.cPack "rows" (sp_P_rows A) [] E (tVar 0) (tNil)) (tCons (tMeth A.cPack "numbers" (sp_P_numbers A) [] E (tVar 0) (tNil)) (tCons (tMeth A.cPack "bases" (sp_P_bases A) [] E (tVar 0) (tNil)) (tCons (tMeth A.cPack "chain" (sp_P_chain A) [] E (tVar 0) (tCons (tVar 6) (tNil))) (tNil)))))) (gName 7)) (tSeq (tDrop (tBM A.K "list" rAppend (tVar 4) (tCons (tLst (tCons (tVar 7) (tCons (tLst (tCons (tCB (rListG A.K) (tCons (tOp (rIx A.K) (tVar 7) (tC (.int 0))) (tNil))) (tCons (tCB (rListG A.K) (tCons (tOp (rIx A.K) (tVar 7) (tC (.int 1))) (tNil))) (tCons (tCB (rDictD) (tCons (tOp (rIx A.K) (tVar 7) (tC (.int 2))) (tNil))) (tCons (tCB (rListG A.K) (tCons (tOp (rIx A.K) (tVar 7) (tC (.int 3))) (tNil))) (tNil)))))) (tNil)))) (tNil)))) (tSeq (tFor (iRng1 (tCons (tOp rAdd3 (tC (.int 2)) (tOp rMod (tVar 3) (tC (.int 2)))) (tNil))) (gName 8) (tCut (tIfS (tOr (tTest (tOp (rNeG A.K) (tMeth A.cPack "read" (sp_P_read A) [] E (tVar 0) (tCons (tVar 6) (tNil))) (tDGet (tVar 2) (tVar 6)))) (tTest (tOp (rNeG A.K) (tMeth A.cPack "base" (sp_P_base A) [] E (tVar 0) (tCons (tVar 6) (tNil))) (tOp (rIx A.K) (tDGet (tVar 1) (tVar 6)) (tC (.int 0)))))) (tRet (tC (.bl false))) (tNext)) (tIfS (tOr (tTest (tOp (rNeG A.K) (tMeth A.cPack "chain" (sp_P_chain A) [] E (tVar 0) (tCons (tVar 6) (tNil))) (tCall (sp_l_chain A) [] E (tCons (tVar 1) (tCons (tVar 6) (tNil)))))) (tTest (tOp (rLt) (tMeth A.cPack "weight" (sp_P_weight A) [] E (tVar 0) (tNil)) (tC (.int 0))))) (tRet (tC (.bl false))) (tNext)))) (tRet (tCall (sp_l_rows_are A) [] E (tCons (tMeth A.cPack "rows" (sp_P_rows A) [] E (tVar 0) (tNil)) (tCons (tVar 1) (tNil)))))))))
theorem p_l_asked (A : Ad) (pk : PkOk A) {vs : List V} {H : Hp} {Q : VK} {E : XK} (h : sp_l_asked A vs H Q E) : t_l_asked A E { nx := fun _ H2 => Q .non H2, rt := Q } (start ["_law_pack", "_law_kept", "_law_texts", "_law_cell", "_law_held", "_law_names_here", "_law_one", "_law_told", "_law_k"] vs) H := by
  obtain ⟨p, dl, ds, dk, dt, ph, b, co, c, ys, ks, ts, o, k, tx, nh, N, rfl, w, u, h0, hl, hn, h1⟩ := h
  have yl : ys.length < 64 := by rw [u.perm.length_eq]; exact hl
  obtain ⟨ka, ek, hka⟩ := id w.kp
  (change t_l_asked A E _ [_, _, _, _, _, none, none, none, none] _; unfold t_l_asked; walk_at "rd")
  refine r_sortK (.of ek) hl fun zs h2 h3 pn H1 nn s1 e1 => ?_
  rw [rising_eq (h2.trans u.perm.symm) h3 u.ris] at e1
  have w1 := w.sm s1
  walk_at "rd"
  rw [List.length_map, u.perm.length_eq]
  walk_at "rd"
  obtain ⟨j, ej⟩ : ∃ j : Nat, c / 3 % (ks.length : Int) = j := ⟨(c / 3 % (ks.length : Int)).toNat, by have := Int.emod_nonneg (c / 3) (show (ks.length : Int) ≠ 0 by omega); omega⟩
  have hj : j < ys.length := by have := Int.emod_lt_of_pos (c / 3) (show (0 : Int) < ks.length by omega); rw [u.perm.length_eq]; omega
  rw [ej]
  refine r_ixL (.of e1) (v := .int ys[j]) (atI_nat (by rw [List.getElem?_map, List.getElem?_eq_getElem hj]; rfl)) ?_
  have hone : ys[j] ∈ ys := List.getElem_mem hj
  generalize ys[j] = one at *
  have honek := u.mem.mp hone
  obtain ⟨cc, hcc, hccl⟩ := u.gd.ch hone
  obtain ⟨dx1, ip1⟩ := w1.ip
  walk_at "rd"
  refine ⟨p, dl, ds, b, co, ys, o, k, rfl, w1.pk.r, u.ris, yl, fun r2 H2 s2 nr2 hR2 => ?_⟩
  have w2 := w1.sm s2
  obtain ⟨dx2, ip2⟩ := w2.ip
  walk_at "rd"
  refine u_numbers w2.pk.r u.ris yl fun r3 H3 nr3 s3 e3 => ?_
  have w3 := w2.sm s3
  obtain ⟨dx3, ip3⟩ := w3.ip
  walk_at "rd"
  refine ⟨p, dl, ds, b, co, ys, o, k, rfl, w3.pk.r, fun r4 H4 nr4 s4 e4 => ?_⟩
  have w4 := w3.sm s4
  obtain ⟨dx4, ip4⟩ := w4.ip
  walk_at "rd"
  refine ⟨p, dl, ds, b, co, ys, o, k, _, rfl, w4.pk.r, .inl ⟨one, cc, rfl, hone, hcc, hccl, fun r5 H5 nr5 s5 e5 => ?_⟩⟩
  walk_at "rd"
  intro rt H6 nrt s6 e6
  obtain ⟨ra, er2, hra⟩ := id hR2
  have er6 := s6 _ _ (s5 _ _ (s4 _ _ (s3 _ _ er2)))
  have e36 := s6 _ _ (s5 _ _ (s4 _ _ e3))
  have e46 := s6 _ _ (s5 _ _ e4)
  have e56 := s6 _ _ e5
  obtain ⟨vs0, eph0, _⟩ := id ((w4.sm s5).sm s6).hd
  walk_at "rd"
  refine r_listL (.of er6) fun t1 H7 nt1 s7 e7 => ?_
  walk_at "rd"
  have e67 := s7 _ _ e6
  walk_at "rd"
  refine r_listL (.of (s7 _ _ e36)) fun t2 H8 nt2 s8 e8 => ?_
  walk_at "rd"
  have e68 := s8 _ _ e67
  walk_at "rd"
  refine r_dictD (.of (s8 _ _ (s7 _ _ e46))) fun t3 H9 nt3 s9 e9 => ?_
  walk_at "rd"
  have e69 := s9 _ _ e68
  walk_at "rd"
  refine r_listL (.of (s9 _ _ (s8 _ _ (s7 _ _ e56)))) fun t4 H10 nt4 s10 e10 => ?_
  walk_at "rd"
  intro tt H11 ntt s11 e11
  walk_at "rd"
  intro tp H12 ntp s12 e12
  walk_at "rd"
  have s15 := s2.trans (s3.trans (s4.trans s5))
  have s612 := s7.trans (s8.trans (s9.trans (s10.trans (s11.trans s12))))
  have w12 := ((w4.sm s5).sm s6).sm s612
  have wn : ∀ {X : Hp} {a : Addr}, Same H1 X → X a = none → a ∉ avO p dl ds dk dt ph := fun {X a} sx e => w1.new (sx.free e)
  have s06 := s15.trans s6
  have s07 := s06.trans s7
  have s08 := s07.trans s8
  have s09 := s08.trans s9
  have s010 := s09.trans s10
  have s011 := s010.trans s11
  have s1012 := s11.trans s12
  have hpair : PairOk H12 (avO p dl ds dk dt ph) (.ref tp) := ⟨tp, rt, tt, _, _, rfl, wn s011 ntp, wn s15 nrt, wn s010 ntt, e12, s612 _ _ e6, s12 _ _ e11,
    .cons (.inl ⟨r2, t1, _, rfl, rfl, w1.new nr2, wn s06 nt1, s612 _ _ er6, s1012 _ _ (s10 _ _ (s9 _ _ (s8 _ _ e7))), fun v hv => by obtain ⟨n, _, rfl⟩ := List.mem_map.mp hv; exact .inr ⟨_, rfl⟩⟩)
    (.cons (.inl ⟨r3, t2, _, rfl, rfl, wn s2 nr3, wn s07 nt2, s612 _ _ e36, s1012 _ _ (s10 _ _ (s9 _ _ e8)), fun v hv => by obtain ⟨n, _, rfl⟩ := List.mem_map.mp hv; exact .inl rfl⟩)
    (.cons (.inr ⟨r4, t3, o, ys, rfl, rfl, wn (s2.trans s3) nr4, wn s08 nt3, s612 _ _ e46, s1012 _ _ (s10 _ _ e9)⟩)
    (.cons (.inl ⟨r5, t4, _, rfl, rfl, wn (s2.trans (s3.trans s4)) nr5, wn s09 nt4, s612 _ _ e56, s1012 _ _ e10, fun v hv => by obtain ⟨n, _, rfl⟩ := List.mem_map.mp hv; exact .inl rfl⟩) .nil)))⟩
  obtain ⟨vs, eph, lvs, put⟩ := w12.put hpair
  refine r_append eph (szl (by rw [lvs]; omega)) fun H13 c13 => ?_
  have w13 := put H13 c13
  have k13 : Kp [ph] H H13 := (Kp.of ((s1.trans s15).trans (s6.trans s612))).trans (Kp.chgL c13 eph (by simp))
  clear put hpair e12 e11 e10 e9 e8 e7 e69 e68 e67 e6 e56 e46 e36 er6 hra er2 hR2 e5 e4 e3 c13 eph w12 wn s15 s612 s06 s07 s08 s09 s010 s011 s1012 e1 w2 w3 w4 w1 ip1 ip2 ip3 ip4 nr2 nr3 nr4 nr5 nrt nt1 nt2 nt3 nt4 ntt ntp w
  have st : ∀ {X : Hp}, Same H13 X → Wo A X p dl ds dk dt ph b co ys ks ts o k tx (nh + 1) := fun {X} sx => w13.sm sx
  walk_at "rd"
  refine for_go (walk_rng0 (n := (2 + c % 2).toNat)) (fun i σ H14 => ∃ y8 : Option V, σ = [some (.ref p), some (.ref dk), some (.ref dt), some (.int c), some (.ref ph), some (.ref pn), some (.int one), some (.ref rt), y8] ∧ Same H13 H14) ⟨none, rfl, fun _ _ z => z⟩ (fun _ _ _ _ _ => trivial) ?_ ?_
  · rintro i x σ H14 H15 hi ⟨y8, rfl, s14⟩ ⟨rfl, rfl⟩
    have w14 := st s14
    obtain ⟨dx14, ip14⟩ := w14.ip
    walk_at "rd"
    refine r_cut (fun σ' H16 => σ' = [some (.ref p), some (.ref dk), some (.ref dt), some (.int c), some (.ref ph), some (.ref pn), some (.int one), some (.ref rt), some (.int i)] ∧ Same H13 H16) ?_ ?_
    · walk_at "rd"
      refine u_read w14.pk.r hone u.gd fun H16 s16 => ?_
      have w16 := w14.sm s16
      obtain ⟨dx16, ip16⟩ := w16.ip
      walk_at "rd"
      refine r_dgetE (.of (show H16 dt = _ from w16.tt)) (nK_in (u.sub one honek)) ?_
      walk_at "rd"
      refine r_ndec (fun z => absurd rfl z) fun _ => ?_
      walk_at "rd"
      refine ⟨p, dl, ds, b, co, ys, o, k, _, rfl, w16.pk.r, .inl ⟨one, rfl, hone, ?_⟩⟩
      obtain ⟨ka6, ek6, hka6⟩ := id w16.kp
      obtain ⟨kv, et, _⟩ := hka6 one honek
      walk_at "rd"
      refine r_dgetE (.of ek6) (nK_in honek) ?_
      walk_at "rd"
      refine r_neO ?_
      walk_at "rd"
      exact ⟨rfl, s14.trans s16⟩
    · rintro σ' H16 ⟨rfl, s16⟩
      have w16 := st s16
      obtain ⟨dx16, ip16⟩ := w16.ip
      walk_at "rd"
      refine ⟨p, dl, ds, b, co, ys, o, k, _, rfl, w16.pk.r, .inl ⟨one, cc, rfl, hone, hcc, hccl, fun q17 H17 nq17 s17 e17 => ?_⟩⟩
      have w17 := w16.sm s17
      walk_at "rd"
      refine u_l_chain w17.kp.r (Ch.mem_eq (fun n => u.mem) hcc) (by omega) fun q18 H18 nq18 s18 e18 => ?_
      have w18 := w17.sm s18
      obtain ⟨dx18, ip18⟩ := w18.ip
      refine r_neSame (inD cc) (inD_dp (.of (s18 _ _ e17))) (inD_dp (.of e18)) (inD_shaped _) ?_
      walk_at "rd"
      refine ⟨p, dl, ds, b, co, ys, o, k, tx, rfl, w18.pk, u.gd, fun H19 s19 => ?_⟩
      walk_at "rd"
      refine r_dec (fun z => by omega) fun _ => ?_
      walk_at "rd"
      exact ⟨_, rfl, s16.trans (s17.trans (s18.trans s19))⟩
  · rintro σ H14 ⟨y8, rfl, s14⟩
    have w14 := st s14
    obtain ⟨dx14, ip14⟩ := w14.ip
    walk_at "rd"
    refine ⟨p, dl, ds, b, co, ys, o, k, rfl, w14.pk.r, u.ris, yl, fun r H15 s15 nr hR => ?_⟩
    have w15 := w14.sm s15
    walk_at "rd"
    exact u_rows_are hR w15.kp u.perm u.ris hl u.gd (fun _ _ => rfl) (fun _ _ => rfl) fun H16 s16 => h1 H16 (w15.sm s16) (k13.trans (.of (s14.trans (s15.trans s16))))
def sp_P_turn_to (A : Ad) : Sp := fun vs H Q E => ∃ (p dl ds : Addr) (b co : Int) (ks : List Int) (o : Int → Option Int) (k : Int → Kept) (tx : Int → List Nat) (n : Int) (c : List Int), vs = [.ref p, .int n] ∧ PkAt A H p dl ds b co ks o k ∧ Gd ks o k tx ∧ n ∈ ks ∧ Ch (lvO ks o) n c ∧
  ∀ H', Frm p dl ds H H' → PkAt A H' p dl ds b co ks (turnO c o) (fu (turnP c k) n (.tx (tx n))) → Q .non H'
theorem u_turn_to {A : Ad} {p dl ds : Addr} {b co : Int} {ks : List Int} {o : Int → Option Int} {k : Int → Kept} {tx : Int → List Nat} {n : Int} {c : List Int} {H : Hp} {Q : VK} {E : XK} (h : PkAt A H p dl ds b co ks o k) (g : Gd ks o k tx) (hn : n ∈ ks) (hc : Ch (lvO ks o) n c)
    (q : ∀ H', Frm p dl ds H H' → PkAt A H' p dl ds b co ks (turnO c o) (fu (turnP c k) n (.tx (tx n))) → Q .non H') : sp_P_turn_to A [.ref p, .int n] H Q E := ⟨p, dl, ds, b, co, ks, o, k, tx, n, c, rfl, h, g, hn, hc, q⟩
def t_P_turn_to (A : Ad) (E : XK) : TS := tSeq (tAsg (tMeth A.cPack "read" (sp_P_read A) [] E0 (tVar 0) (tCons (tVar 1) (tNil))) (gName 2)) (tSeq (tAsg (tCall (sp_chain_of A) [] E0 (tCons (tFld A.K (tVar 0) "leans") (tCons (tVar 1) (tNil)))) (gName 3)) (tSeq (tFor (iRng3 (tCons (tOp rSub (tCB (rLenG A.K) (tCons (tVar 3) (tNil))) (tC (.int 1))) (tCons (tC (.int 0)) (tCons (tUn rNeg (tC (.int 1))) (tNil))))) (gName 4) (tSeq (sDPut (tFld A.K (tVar 0) "stock") (tOp (rIx A.K) (tVar 3) (tVar 4)) (tCall (sp_turned A) [] E0 (tCons (tDGet (tFld A.K (tVar 0) "stock") (tOp (rIx A.K) (tVar 3) (tOp rSub (tVar 4) (tC (.int 1))))) (tNil)))) (sDPut (tFld A.K (tVar 0) "leans") (tOp (rIx A.K) (tVar 3) (tVar 4)) (tOp (rIx A.K) (tVar 3) (tOp rSub (tVar 4) (tC (.int 1))))))) (tDrop (tMeth A.cPack "lay" (sp_P_lay A) [] E0 (tVar 0) (tCons (tVar 1) (tCons (tC .non) (tCons (tVar 2) (tNil))))))))
theorem p_P_turn_to (A : Ad) (pk : PkOk A) {vs : List V} {H : Hp} {Q : VK} {E : XK} (h : sp_P_turn_to A vs H Q E) : t_P_turn_to A E { nx := fun _ H2 => Q .non H2, rt := Q } (start ["self", "number", "text", "chain", "k"] vs) H := by
  obtain ⟨p, dl, ds, b, co, ks, o, k, tx, n, c, rfl, hP, g, hn, hc, h1⟩ := h
  obtain ⟨⟨dx, ip⟩, il, ⟨sv, is, kv⟩, ne⟩ := id hP
  (change t_P_turn_to A E _ [_, _, none, none, none] _; unfold t_P_turn_to; walk_at "rd")
  refine u_read hP.r hn g fun H1 s1 => ?_
  walk_at "rd"
  have hcl : c.length ≤ 1000 := by have := hc.len; rw [len_lvO] at this; have := g.len; omega
  have c0 : 0 < c.length := by obtain ⟨r, rfl⟩ := hc.head; exact Nat.succ_pos _
  refine u_chain_of (lv := lvO ks o) (by rw [bK_lvO]; exact .of (s1 _ _ il)) hc (by omega) fun q H2 nq s2 e2 => ?_
  walk_at "rd"
  rw [List.length_map]
  have s02 := s1.trans s2
  have hd0 : c[0]? = some n := by obtain ⟨r, rfl⟩ := hc.head; rfl
  have nd := hc.nodup
  refine ⟨_, _, _, _, rfl, RgC.neg (by omega) (by omega) (by omega) (by omega), ?_⟩
  rw [show (((c.length : Nat) : Int) - 1 - 0).toNat = c.length - 1 by omega]
  refine for_go walk_rangeC (fun i σ H3 => ∃ y : Option V, σ = [some (.ref p), some (.int n), some (.str (S (tx n))), some (.ref q), y] ∧ Frm p dl ds H2 H3 ∧ H3 q = some (.lst (c.map V.int)) ∧
      PkAt A H3 p dl ds b co ks (fun x => if x ∈ c.drop (c.length - i) then prv c x else o x) (fun x => if x ∈ c.drop (c.length - i) then turnP c k x else k x))
    ⟨none, rfl, .of (fun _ _ z => z), e2, (hP.sm s02).congr (fun x _ => by rw [Nat.sub_zero, List.drop_length, if_neg List.not_mem_nil]) (fun x _ => by rw [Nat.sub_zero, List.drop_length, if_neg List.not_mem_nil])⟩ (fun _ _ _ _ _ => trivial) ?_ ?_
  · rintro i x σ H3 H4 hi ⟨y, rfl, f3, eq3, hP3⟩ ⟨rfl, rfl⟩
    have li : c.length - 1 - i < c.length := by omega
    have lj : c.length - 1 - i - 1 < c.length := by omega
    have ei : c[c.length - 1 - i]? = some c[c.length - 1 - i] := List.getElem?_eq_getElem li
    have ej : c[c.length - 1 - i - 1]? = some c[c.length - 1 - i - 1] := List.getElem?_eq_getElem lj
    have hij : c.length - 1 - i = c.length - 1 - i - 1 + 1 := by omega
    have hat := hc.at _ _ ej
    rw [← hij, ei] at hat
    have hdrop : c.drop (c.length - (i + 1)) = c[c.length - 1 - i] :: c.drop (c.length - i) := by
      rw [show c.length - (i + 1) = c.length - 1 - i by omega, List.drop_eq_getElem_cons li, show c.length - 1 - i + 1 = c.length - i by omega]
    have hyn : c[c.length - 1 - i - 1] ∉ c.drop (c.length - i) := fun z => by
      obtain ⟨m, hm⟩ := List.getElem?_of_mem z
      rw [List.getElem?_drop] at hm
      have := nodup_at nd hm ej
      omega
    have hprv : prv c c[c.length - 1 - i] = some c[c.length - 1 - i - 1] := prv_at nd ej (by rw [← hij]; exact ei)
    have hxm := List.getElem_mem li
    have hym := List.getElem_mem lj
    have eint : ((c.length : Nat) : Int) - 1 + (i : Nat) * (-1) = ((c.length - 1 - i : Nat) : Int) := by omega
    show gName 4 (V.int (((c.length : Nat) : Int) - 1 + (i : Nat) * (-1))) _ _ _
    rw [eint]
    generalize c[c.length - 1 - i] = one at *
    generalize c[c.length - 1 - i - 1] = prev at *
    obtain ⟨hyk, hyo⟩ := look_inv hat
    have hxk := ch_keys hc _ hxm
    obtain ⟨j, gg, cc, hk, _, _, t1, t2⟩ := g.kept hyk hyo
    obtain ⟨⟨dx3, ip3⟩, il3, ⟨sv3, is3, kv3⟩, ne3⟩ := id hP3
    have kvy := kv3 prev hyk
    rw [if_neg hyn, hk] at kvy
    obtain ⟨t, et, eh⟩ := kvy
    have a1 : atI (c.map V.int) ((c.length - 1 - i : Nat) : Int) = some (.int one) := atI_nat (by rw [List.getElem?_map, ei]; rfl)
    have a2 : atI (c.map V.int) (((c.length - 1 - i : Nat) : Int) - 1) = some (.int prev) := by
      rw [show (((c.length - 1 - i : Nat) : Int) - 1) = ((c.length - 1 - i - 1 : Nat) : Int) by omega]
      exact atI_nat (by rw [List.getElem?_map, ej]; rfl)
    walk_at "rd"
    refine r_ixL (.of eq3) a2 ?_
    refine r_dgetE (.of is3) (nK_in hyk) ?_
    rw [et]
    walk_at "rd"
    refine ⟨_, _, _, t, rfl, eh, fun r H5 nr s5 e5 => ?_⟩
    walk_at "rd"
    refine r_ixL (.of (s5 _ _ eq3)) a1 ?_
    have gl := g.len
    refine r_dputE (s5 _ _ is3) (szl (by rw [nK_len]; omega)) fun H6 c6 => ?_
    have npl : p ≠ dl := ne_val ip3 il3 fun z => by cases z
    have nps : p ≠ ds := ne_val ip3 is3 fun z => by cases z
    have ip6 := c6.2 _ _ nps (s5 _ _ ip3)
    have il6 := c6.2 _ _ ne3 (s5 _ _ il3)
    have eq6 := c6.2 _ _ (ne_val eq3 is3 fun z => by cases z) (s5 _ _ eq3)
    walk_at "rd"
    refine r_ixL (.of eq6) a2 ?_
    walk_at "rd"
    refine r_ixL (.of eq6) a1 ?_
    refine r_dputE il6 (szl (by rw [nK_len]; omega)) fun H7 c7 => ?_
    have f7 : Frm p dl ds H4 H7 := (((Frm.of s5).chg c6 (.inr (.inr rfl))).chg c7 (.inr (.inl rfl)))
    have er6 : H6 r = _ := c6.2 _ _ (fun z => by rw [z, is3] at nr; cases nr) e5
    have er7 : H7 r = _ := c7.2 _ _ (ne_val er6 il6 fun z => by cases z) er6
    refine ⟨_, rfl, f3.trans f7, c7.2 _ _ (ne_val eq6 il6 fun z => by cases z) eq6, ⟨⟨dx3, c7.2 _ _ npl ip6⟩, ?_, ⟨fu sv3 one (.ref r), ?_, fun m hm => ?_⟩, ne3⟩⟩
    · have e7 := c7.1
      rw [nK_add, addK_in hxk] at e7
      have q := obV_fu (o := fun x => if x ∈ c.drop (c.length - i) then prv c x else o x) (n := one) (b := some prev) (ks := ks)
      rw [show (V.int prev) = obV (some prev) from rfl, q] at e7
      rw [e7, nK_congr fun m hm => ?_]
      rw [hdrop]
      by_cases e : m = one
      · subst e
        rw [fu_eq, if_pos List.mem_cons_self, hprv]
      · rw [fu_ne e]
        by_cases e2 : m ∈ c.drop (c.length - i)
        · rw [if_pos e2, if_pos (List.mem_cons_of_mem _ e2)]
        · rw [if_neg e2, if_neg fun z => (List.mem_cons.mp z).elim e e2]
    · rw [c7.2 _ _ ne3.symm c6.1, nK_add, addK_in hxk]
    · rw [hdrop]
      by_cases e : m = one
      · subst e
        rw [fu_eq, if_pos List.mem_cons_self]
        unfold turnP
        rw [hprv]
        show KvAt H7 _ (turnK (k prev))
        rw [hk]
        exact ⟨r, rfl, er7⟩
      · rw [fu_ne e]
        have h := (kv3 m hm).sm fun a xs z => hP3.tup f7 z
        by_cases e2 : m ∈ c.drop (c.length - i)
        · rw [if_pos e2] at h
          rw [if_pos (List.mem_cons_of_mem _ e2)]
          exact h
        · rw [if_neg e2] at h
          rw [if_neg fun z => (List.mem_cons.mp z).elim e e2]
          exact h
  · rintro σ H3 ⟨y, rfl, f3, eq3, hP3⟩
    obtain ⟨⟨dx3, ip3⟩, _⟩ := id hP3
    walk_at "rd"
    refine u_lay (tx := tx) none rfl hP3 g.len (g.sz n hn).1 (fun x z => by cases z) fun H4 f4 hP4 => ?_
    refine h1 H4 (((Frm.of s02).trans f3).trans f4) ?_
    rw [addK_in hn] at hP4
    have ed : c.drop (c.length - (c.length - 1)) = c.tail := by rw [show c.length - (c.length - 1) = 1 by omega, List.drop_one]
    have hnt : n ∉ c.tail := fun z => by
      obtain ⟨r, rfl⟩ := hc.head
      rw [List.nodup_cons] at nd
      exact nd.1 z
    have hcm : ∀ m, m ≠ n → (m ∈ c.tail ↔ m ∈ c) := fun m e => by
      obtain ⟨r, rfl⟩ := hc.head
      exact ⟨fun z => List.mem_cons_of_mem _ z, fun z => (List.mem_cons.mp z).resolve_left e⟩
    refine hP4.congr (fun m hm => ?_) fun m hm => ?_
    · unfold turnO
      by_cases e : m = n
      · subst e
        rw [fu_eq, if_pos (List.mem_of_getElem? hd0), prv_none hnt]
      · rw [fu_ne e, ed]
        by_cases e2 : m ∈ c
        · rw [if_pos e2, if_pos ((hcm m e).mpr e2)]
        · rw [if_neg e2, if_neg fun z => e2 ((hcm m e).mp z)]
    · by_cases e : m = n
      · subst e
        rw [fu_eq, fu_eq]
        rfl
      · rw [fu_ne e, fu_ne e, ed]
        by_cases e2 : m ∈ c.tail
        · rw [if_pos e2]
        · rw [if_neg e2]
          unfold turnP
          rw [prv_none e2]
def sp_P_store (A : Ad) : Sp := fun vs H Q E => ∃ (p dl ds : Addr) (b co : Int) (ks : List Int) (o : Int → Option Int) (k : Int → Kept) (v : V) (t : List Nat), vs = [.ref p, .str (S t), v] ∧ PkAt A H p dl ds b co ks o k ∧
  ((∃ (tx : Int → List Nat) (oth : Option Int), v = obV oth ∧ (∀ x, oth = some x → x ∈ ks) ∧ Gd ks o k tx ∧ co ∉ ks ∧ ks.length < 1000 ∧ Tx 100000 t ∧
    ∀ (o' : Int → Option Int) (k' : Int → Kept) (H' : Hp), StR b (ks ++ [co]) (fu o co oth) (fu k co (layK tx oth t)) (fu tx co t) co o' k' → Frm p dl ds H H' → PkAt A H' p dl ds b (co + 1) (ks ++ [co]) o' k' → Q (.int co) H') ∨
   (NoVer H ks v ∧ v ≠ .non ∧ E (.ref A.cNoVersion) none H))
theorem u_store {A : Ad} {p dl ds : Addr} {b co : Int} {ks : List Int} {o : Int → Option Int} {k : Int → Kept} {tx : Int → List Nat} (oth : Option Int) {t : List Nat} {v : V} {H : Hp} {Q : VK} {E : XK} (ev : v = obV oth) (h : PkAt A H p dl ds b co ks o k) (ho : ∀ x, oth = some x → x ∈ ks) (g : Gd ks o k tx) (hn : co ∉ ks) (hl : ks.length < 1000) (ht : Tx 100000 t)
    (q : ∀ (o' : Int → Option Int) (k' : Int → Kept) (H' : Hp), StR b (ks ++ [co]) (fu o co oth) (fu k co (layK tx oth t)) (fu tx co t) co o' k' → Frm p dl ds H H' → PkAt A H' p dl ds b (co + 1) (ks ++ [co]) o' k' → Q (.int co) H') : sp_P_store A [.ref p, .str (S t), v] H Q E :=
  ⟨p, dl, ds, b, co, ks, o, k, v, t, rfl, h, .inl ⟨tx, oth, ev, ho, g, hn, hl, ht, q⟩⟩
def t_P_store (A : Ad) (E : XK) : TS := tCut (tIfS (tB (tNotN (tVar 2))) (tDrop (tMeth A.cPack "need" (sp_P_need A) [] E (tVar 0) (tCons (tVar 2) (tNil)))) (tNext)) (tSeq (tAsg (tFld A.K (tVar 0) "coming") (gName 3)) (tSeq (sFld A.K (tVar 0) (tOp rAdd3 (tVar 3) (tC (.int 1))) "coming") (tSeq (tDrop (tMeth A.cPack "lay" (sp_P_lay A) [] E (tVar 0) (tCons (tVar 3) (tCons (tVar 2) (tCons (tVar 1) (tNil)))))) (tCut (tIfS (tTest (tOp (rGt) (tOp rSub (tCB (rLenG A.K) (tCons (tCall (sp_chain_of A) [] E (tCons (tFld A.K (tVar 0) "leans") (tCons (tVar 3) (tNil)))) (tNil))) (tC (.int 1))) (tFld A.K (tVar 0) "bound"))) (tSeq (tAsg (tCall (sp_middle A) [] E (tCons (tFld A.K (tVar 0) "leans") (tCons (tVar 3) (tNil)))) (gName 4)) (tIfS (tTest (tOp (rLe) (tCall (sp_reach A) [] E (tCons (tFld A.K (tVar 0) "leans") (tCons (tVar 4) (tNil)))) (tFld A.K (tVar 0) "bound"))) (tDrop (tMeth A.cPack "turn_to" (sp_P_turn_to A) [] E (tVar 0) (tCons (tVar 4) (tNil)))) (tDrop (tMeth A.cPack "lay" (sp_P_lay A) [] E (tVar 0) (tCons (tVar 3) (tCons (tC .non) (tCons (tVar 1) (tNil)))))))) (tNext)) (tRet (tVar 3))))))
theorem p_P_store (A : Ad) (pk : PkOk A) {vs : List V} {H : Hp} {Q : VK} {E : XK} (h : sp_P_store A vs H Q E) : t_P_store A E { nx := fun _ H2 => Q .non H2, rt := Q } (start ["self", "text", "beside", "number", "best"] vs) H := by
  obtain ⟨p, dl, ds, b, co, ks, o, k, v, t, rfl, hP, h1⟩ := h
  rcases h1 with ⟨tx, oth, rfl, ho, g, hn, hl, ht, h1⟩ | ⟨hv, hne, h1⟩
  · (change t_P_store A E _ [_, _, _, none, none] _; unfold t_P_store; walk_at "rd")
    refine r_cut (fun σ' H' => σ' = [some (.ref p), some (.str (S t)), some (obV oth), none, none] ∧ H' = H) ?_ ?_
    · walk_at "rd"
      cases oth with
      | none =>
        refine r_ndec (fun z => absurd rfl z) fun _ => ?_
        walk_at "rd"
        exact ⟨rfl, rfl⟩
      | some x =>
        refine r_ndec (fun _ => ?_) fun z => V.noConfusion z
        obtain ⟨⟨dx, ip⟩, _⟩ := id hP
        walk_at "rd"
        refine u_need hP.r (ho x rfl) ?_
        exact ⟨rfl, rfl⟩
    rintro σ' H' ⟨rfl, rfl⟩
    obtain ⟨⟨dx, ip⟩, il, ⟨sv, is, kv⟩, ne⟩ := id hP
    walk_at "rd"
    refine r_sfldE ip pk.cl pk.nc (show 4 < 1000 by decide) fun H1 c1 => ?_
    have f1 : Frm p dl ds H' H1 := (Frm.of (fun _ _ z => z)).chg c1 (.inl rfl)
    have ip1 := c1.1
    rw [putC] at ip1
    have npl : dl ≠ p := ne_val il ip fun z => by cases z
    have nps : ds ≠ p := ne_val is ip fun z => by cases z
    have hP1 : PkAt A H1 p dl ds b (co + 1) ks o k := ⟨⟨dx, ip1⟩, c1.2 _ _ npl il, ⟨sv, c1.2 _ _ nps is, fun m hm => (kv m hm).sm fun a xs z => hP.tup f1 z⟩, ne⟩
    walk_at "rd"
    refine u_lay (tx := tx) oth rfl hP1 (by omega) ht.1 (fun x e => ⟨ho x e, g⟩) fun H2 f2 hP2 => ?_
    rw [addK_new hn] at hP2
    have g2 := g.add hn hl ho ht
    generalize fu o co oth = o1 at *
    generalize fu k co (layK tx oth t) = k1 at *
    have et : fu tx co t co = t := fu_eq
    generalize fu tx co t = tx1 at *
    have hn1 : co ∈ ks ++ [co] := by simp
    generalize ks ++ [co] = ks1 at *
    obtain ⟨⟨dx2, ip2⟩, il2, _⟩ := id hP2
    walk_at "rd"
    refine r_cut (fun σ' H' => ∃ (y : Option V) (o' : Int → Option Int) (k' : Int → Kept), σ' = [some (.ref p), some (.str (S t)), some (obV oth), some (.int co), y] ∧ StR b ks1 o1 k1 tx1 co o' k' ∧ Frm p dl ds H2 H' ∧ PkAt A H' p dl ds b (co + 1) ks1 o' k') ?_ ?_
    · walk_at "rd"
      obtain ⟨c, hc, hcl⟩ := g2.ch hn1
      refine u_chain_of (lv := lvO ks1 o1) (by rw [bK_lvO]; exact .of il2) hc (by omega) fun q3 H3 nq3 s3 e3 => ?_
      walk_at "rd"
      rw [List.length_map]
      refine r_dec (fun z => ?_) fun z => ?_
      · walk_at "rd"
        refine ⟨dl, co, lvO ks1 o1, rfl, by rw [bK_lvO]; exact s3 _ _ il2, g2.fo, by rw [keys_lvO]; exact hn1, fun m H4 hm s4 => ?_⟩
        have hmk := hm.key
        walk_at "rd"
        refine ⟨dl, m, lvO ks1 o1, rfl, by rw [bK_lvO]; exact s4 _ _ (s3 _ _ il2), g2.fo, by rw [keys_lvO]; exact hmk, fun r H5 hr s5 => ?_⟩
        have s25 := s3.trans (s4.trans s5)
        have hP5 := hP2.sm s25
        walk_at "rd"
        refine r_dec (fun z2 => ?_) fun z2 => ?_
        · walk_at "rd"
          obtain ⟨cm, hcm, _⟩ := g2.ch hmk
          refine u_turn_to hP5 g2 hmk hcm fun H6 f6 hP6 => ?_
          exact ⟨_, _, _, rfl, .inr (.inl ⟨c, m, r, cm, hc, z, hm, hr, z2, hcm, hmk, rfl, rfl⟩), (Frm.of s25).trans f6, hP6⟩
        · walk_at "rd"
          refine u_lay (tx := tx1) none rfl hP5 g2.len ht.1 (fun x e => by cases e) fun H6 f6 hP6 => ?_
          rw [addK_in hn1] at hP6
          exact ⟨_, _, _, rfl, .inr (.inr ⟨c, m, r, hc, z, hm, hr, by omega, rfl, by rw [et]; rfl⟩), (Frm.of s25).trans f6, hP6⟩
      · walk_at "rd"
        exact ⟨_, _, _, rfl, .inl ⟨c, hc, by omega, rfl, rfl⟩, .of s3, hP2.sm s3⟩
    rintro σ' H6 ⟨y, o', k', rfl, hs, f6, hP6⟩
    walk_at "rd"
    exact h1 o' k' H6 hs ((f1.trans f2).trans f6) hP6
  · (change t_P_store A E _ [_, _, _, none, none] _; unfold t_P_store; walk_at "rd")
    refine r_cut (fun _ _ => False) ?_ fun _ _ z => z.elim
    obtain ⟨⟨dx, ip⟩, _⟩ := id hP
    walk_at "rd"
    refine r_ndec (fun _ => ?_) fun z => absurd z hne
    walk_at "rd"
    exact u_needX hP.r hv h1
def sp_P_root (A : Ad) : Sp := fun vs H Q E => ∃ (p dl ds : Addr) (b co : Int) (ks : List Int) (o : Int → Option Int) (k : Int → Kept) (v : V), vs = [.ref p, v] ∧ PkAt A H p dl ds b co ks o k ∧
  ((∃ (n : Int) (tx : Int → List Nat) (c : List Int), v = .int n ∧ n ∈ ks ∧ Gd ks o k tx ∧ Ch (lvO ks o) n c ∧
    (∀ (r : Nat) (H' : Hp), RS (lvO ks o) n r → (r : Int) ≤ b → Frm p dl ds H H' → PkAt A H' p dl ds b co ks (turnO c o) (fu (turnP c k) n (.tx (tx n))) → Q .non H') ∧
    ∀ (r : Nat) (H' : Hp), RS (lvO ks o) n r → b < (r : Int) → Same H H' → E (.ref A.cTooFar) none H') ∨ (NoVer H ks v ∧ E (.ref A.cNoVersion) none H))
def t_P_root (A : Ad) (E : XK) : TS := tSeq (tDrop (tMeth A.cPack "need" (sp_P_need A) [] E (tVar 0) (tCons (tVar 1) (tNil)))) (tSeq (tIfS (tTest (tOp (rGt) (tCall (sp_reach A) [] E (tCons (tFld A.K (tVar 0) "leans") (tCons (tVar 1) (tNil)))) (tFld A.K (tVar 0) "bound"))) (tRaise A.cTooFar E) (tNext)) (tDrop (tMeth A.cPack "turn_to" (sp_P_turn_to A) [] E (tVar 0) (tCons (tVar 1) (tNil)))))
theorem p_P_root (A : Ad) (pk : PkOk A) {vs : List V} {H : Hp} {Q : VK} {E : XK} (h : sp_P_root A vs H Q E) : t_P_root A E { nx := fun _ H2 => Q .non H2, rt := Q } (start ["self", "number"] vs) H := by
  obtain ⟨p, dl, ds, b, co, ks, o, k, v, rfl, hP, h1⟩ := h
  rcases h1 with ⟨n, tx, c, rfl, hn, g, hc, h1, h2⟩ | ⟨hv, h1⟩
  · obtain ⟨⟨dx, ip⟩, il, _⟩ := id hP
    (change t_P_root A E _ [_, _] _; unfold t_P_root; walk_at "rd")
    refine u_need hP.r hn ?_
    walk_at "rd"
    refine ⟨dl, n, lvO ks o, rfl, by rw [bK_lvO]; exact il, g.fo, by rw [keys_lvO]; exact hn, fun r H1 hr s1 => ?_⟩
    have ip1 := s1 _ _ ip
    walk_at "rd"
    refine r_dec (fun z => ?_) fun z => ?_
    · walk_at "rd"
      exact h2 r H1 hr z s1
    · walk_at "rd"
      refine u_turn_to (hP.sm s1) g hn hc fun H2 f2 hP2 => ?_
      exact h1 r H2 hr (by omega) ((Frm.of s1).trans f2) hP2
  · obtain ⟨⟨dx, ip⟩, _⟩ := id hP
    (change t_P_root A E _ [_, _] _; unfold t_P_root; walk_at "rd")
    exact u_needX hP.r hv h1
def sp_l_one_more (A : Ad) : Sp := fun vs H Q E => ∃ (p dl ds dk dt ph : Addr) (b co c : Int) (ys ks ts : List Int) (o : Int → Option Int) (k : Int → Kept) (tx : Int → List Nat) (nh N : Nat), vs = [.ref p, .ref dk, .ref dt, .int b, .int co, .int c] ∧
  Wo A H p dl ds dk dt ph b co ys ks ts o k tx nh ∧ Pu b co ys ks ts o k tx N ∧ 0 ≤ co ∧ 0 < ks.length ∧ ks.length < 64 ∧ ts.length < 1000 ∧ N ≤ 50000 ∧
  ∀ (o' : Int → Option Int) (k' : Int → Kept) (tx' : Int → List Nat) (H' : Hp), Wo A H' p dl ds dk dt ph b (co + 1) (ys ++ [co]) (ks ++ [co]) (addK ts co) o' k' tx' nh → Pu b (co + 1) (ys ++ [co]) (ks ++ [co]) (addK ts co) o' k' tx' (N + 10) → Kp [p, dl, ds, dk, dt] H H' → Q (.bl true) H'
theorem u_one_more {A : Ad} {p dl ds dk dt ph : Addr} {b co c : Int} {ys ks ts : List Int} {o : Int → Option Int} {k : Int → Kept} {tx : Int → List Nat} {nh N : Nat} {H : Hp} {Q : VK} {E : XK} (w : Wo A H p dl ds dk dt ph b co ys ks ts o k tx nh) (u : Pu b co ys ks ts o k tx N) (h : 0 ≤ co) (h0 : 0 < ks.length) (h1 : ks.length < 64) (h2 : ts.length < 1000) (h3 : N ≤ 50000)
    (q : ∀ (o' : Int → Option Int) (k' : Int → Kept) (tx' : Int → List Nat) (H' : Hp), Wo A H' p dl ds dk dt ph b (co + 1) (ys ++ [co]) (ks ++ [co]) (addK ts co) o' k' tx' nh → Pu b (co + 1) (ys ++ [co]) (ks ++ [co]) (addK ts co) o' k' tx' (N + 10) → Kp [p, dl, ds, dk, dt] H H' → Q (.bl true) H') :
    sp_l_one_more A [.ref p, .ref dk, .ref dt, .int b, .int co, .int c] H Q E := ⟨p, dl, ds, dk, dt, ph, b, co, c, ys, ks, ts, o, k, tx, nh, N, rfl, w, u, h, h0, h1, h2, h3, q⟩
def t_l_one_more (A : Ad) (E : XK) : TS := tSeq (tAsg (tCB (rSortedDI) (tCons (tVar 1) (tNil))) (gName 6)) (tSeq (tAsg (tOp (rIx A.K) (tVar 6) (tOp rMod (tVar 5) (tCB (rLenG A.K) (tCons (tVar 6) (tNil))))) (gName 7)) (tSeq (sDPut (tVar 2) (tVar 4) (tCall (sp_l_next_text A) [] E0 (tCons (tDGet (tVar 2) (tVar 7)) (tCons (tOp rDiv (tVar 5) (tC (.int 4))) (tNil))))) (tSeq (tIfS (tTest (tOp (rGt) (tCB (rLenG A.K) (tCons (tCall (sp_l_chain A) [] E0 (tCons (tVar 1) (tCons (tVar 7) (tNil)))) (tNil))) (tVar 3))) (tSeq (sDPut (tVar 1) (tVar 4) (tTup (tCons (tC .non) (tCons (tDGet (tVar 2) (tVar 4)) (tNil))))) (tRet (tOp (rEqG A.K) (tMeth A.cPack "store" (sp_P_store A) [] E0 (tVar 0) (tCons (tDGet (tVar 2) (tVar 4)) (tCons (tC .non) (tNil)))) (tVar 4)))) (tNext)) (tSeq (sDPut (tVar 1) (tVar 4) (tTup (tCons (tVar 7) (tCons (tCall (sp_l_change_of A) [] E0 (tCons (tDGet (tVar 2) (tVar 7)) (tCons (tDGet (tVar 2) (tVar 4)) (tNil)))) (tNil))))) (tRet (tOp (rEqG A.K) (tMeth A.cPack "store" (sp_P_store A) [] E0 (tVar 0) (tCons (tDGet (tVar 2) (tVar 4)) (tCons (tVar 7) (tNil)))) (tVar 4)))))))
theorem p_l_one_more (A : Ad) (pk : PkOk A) {vs : List V} {H : Hp} {Q : VK} {E : XK} (h : sp_l_one_more A vs H Q E) : t_l_one_more A E { nx := fun _ H2 => Q .non H2, rt := Q } (start ["_law_pack", "_law_kept", "_law_texts", "_law_bound", "_law_number", "_law_cell", "_law_names_here", "_law_beside"] vs) H := by
  obtain ⟨p, dl, ds, dk, dt, ph, b, co, c, ys, ks, ts, o, k, tx, nh, N, rfl, w, u, hco, h0, hl, htl, hN, h1⟩ := h
  have yl : ys.length < 64 := by rw [u.perm.length_eq]; exact hl
  obtain ⟨ka, ek, hka⟩ := id w.kp
  (change t_l_one_more A E _ [_, _, _, _, _, _, none, none] _; unfold t_l_one_more; walk_at "rd")
  refine r_sortK (.of ek) hl fun zs h2 h3 pn H1 nn s1 e1 => ?_
  rw [rising_eq (h2.trans u.perm.symm) h3 u.ris] at e1
  have w1 := w.sm s1
  walk_at "rd"
  rw [List.length_map, u.perm.length_eq]
  walk_at "rd"
  obtain ⟨j, ej⟩ : ∃ j : Nat, c % (ks.length : Int) = j := ⟨(c % (ks.length : Int)).toNat, by have := Int.emod_nonneg c (show (ks.length : Int) ≠ 0 by omega); omega⟩
  have hj : j < ys.length := by have := Int.emod_lt_of_pos c (show (0 : Int) < ks.length by omega); rw [u.perm.length_eq]; omega
  rw [ej]
  refine r_ixL (.of e1) (v := .int ys[j]) (atI_nat (by rw [List.getElem?_map, List.getElem?_eq_getElem hj]; rfl)) ?_
  have hone : ys[j] ∈ ys := List.getElem_mem hj
  generalize ys[j] = one at *
  have honek := u.mem.mp hone
  have hones := u.sub one honek
  obtain ⟨cc, hcc, hccl⟩ := u.gd.ch hone
  have conk : co ∉ ks := fun z => u.new (u.mem.mpr z)
  have lone := u.sz one hone
  have oone := (u.gd.sz one hone).2
  have hne : one ≠ co := fun z => u.new (z ▸ hone)
  walk_at "rd"
  refine r_dgetE (.of (show H1 dt = _ from w1.tt)) (nK_in hones) ?_
  walk_at "rd"
  refine u_next_text (by omega) oone fun z H2 s2 lz oz => ?_
  have w2 := w1.sm s2
  walk_at "rd"
  obtain ⟨kvs, e3, lk, put⟩ := w2.text (n := co) (z := z) conk
  refine r_dputE e3 (szl (by rw [lk]; omega)) fun H3 c3 => ?_
  have w3 := put H3 c3
  have k3 : Kp [p, dl, ds, dk, dt] H H3 := (Kp.of (s1.trans s2)).trans (Kp.chgD c3 e3 (by simp))
  have t3 : ∀ {X : Hp}, Wo A X p dl ds dk dt ph b co ys ks (addK ts co) o k (fu tx co z) nh → X dt = some (.dK (nK (fun n => V.str (S (fu tx co z n))) (addK ts co))) := fun {X} w => w.tt
  have cin : co ∈ addK ts co := mem_addK.mpr (.inr rfl)
  have oin : one ∈ addK ts co := mem_addK.mpr (.inl hones)
  clear put e3 c3
  walk_at "rd"
  refine u_l_chain w3.kp.r (Ch.mem_eq (fun n => u.mem) hcc) (by omega) fun q4 H4 nq4 s4 e4 => ?_
  have w4 := w3.sm s4
  walk_at "rd"
  rw [List.length_map]
  have tz : Tx 100000 z := ⟨by omega, oz⟩
  have go : ∀ {X Y : Hp} {t : Addr} {oth : Option Int} {kv : V} {R : VK} {E : XK}, Same H3 X → (∀ x, oth = some x → x ∈ ys) → (∀ d, Ch (lvO (ys ++ [co]) (fu o co oth)) co d → (d.length : Int) - 1 ≤ b) → X t = some (.tup [obV oth, kv]) → KvAt X kv (layK tx oth z) →
      ∃ kvs : List (Key × V), X dk = some (.dK kvs) ∧ kvs.length = ks.length ∧ ∀ Y, Chg dk (.dK (putK kvs (.inl co) (.ref t))) X Y → (∃ dx, Y p = some (.ins A.cPack dx (fsP b dl ds co))) ∧ Y dt = some (.dK (nK (fun n => V.str (S (fu tx co z n))) (addK ts co))) ∧ ∀ {R : VK} {E : XK}, (∀ Z, Q (.bl true) Z → R (.int co) Z) → sp_P_store A [.ref p, .str (S z), obV oth] Y R E := fun {X Y t oth kv R E} sX ho hb et hkv => by
    have wX := w3.sm sX
    obtain ⟨kvs, e5, lk5, put5⟩ := wX.kp.put (n := co) et hkv
    refine ⟨kvs, e5, lk5, fun Y c5 => ?_⟩
    have mX : Kp [p, dl, ds, dk, dt] X Y := Kp.chgD c5 e5 (by simp)
    have mX2 : Kp (avO p dl ds dk dt ph) X Y := Kp.chgD c5 e5 (by simp)
    have hPY := wX.pk.mv e5 c5 w.n1 w.n2
    have hKY := put5 Y c5
    rw [addK_new conk] at hKY
    have hTY : TextsAt Y dt (addK ts co) (fu tx co z) := c5.2 _ _ w.n5.symm wX.tt
    have hHY := wX.hd.mv mX2 fun xs e => c5.2 _ _ (ne_val e e5 fun z => by cases z) e
    refine ⟨hPY.ip, hTY, fun {R E} hR => ?_⟩
    refine u_store (tx := tx) oth rfl hPY ho u.gd u.new (by omega) tz fun o' k' Z hst fZ hPZ => hR Z ?_
    have g2 := u.gd.add u.new (by omega) ho tz
    obtain ⟨d, hd, _⟩ := g2.ch (show co ∈ ys ++ [co] by simp)
    obtain ⟨rfl, rfl⟩ := hst.fit hd (hb d hd)
    have mZ : Kp (avO p dl ds dk dt ph) Y Z := Kp.frm fZ hPY (by simp) (by simp) (by simp)
    have mZ2 : Kp [p, dl, ds, dk, dt] Y Z := Kp.frm fZ hPY (by simp) (by simp) (by simp)
    obtain ⟨⟨dx, ep⟩, _⟩ := id hPY
    obtain ⟨kaY, ekY, _⟩ := id hKY
    refine h1 _ _ _ Z ⟨hPZ, hKY.mv (fun kvs e => fZ _ _ (ne_val e ep fun z => by cases z) w.n1 w.n2 e) mZ.2, fZ _ _ (ne_val hTY ep fun z => by cases z) w.n3 w.n4 hTY, hHY.mv mZ fun _ e => hPY.lst fZ e, w.n1, w.n2, w.n3, w.n4, w.n5⟩
      (u.add (by omega) hco ho (by omega) (by omega) (by omega) oz) (((k3.trans (.of sX)).trans mX).trans mZ2)
  refine r_dec (fun zz => ?_) fun zz => ?_
  · have wv := t3 w4
    walk_at "rd"
    refine r_dgetE (.of wv) (nK_in cin) ?_
    rw [fu_eq]
    walk_at "rd"
    intro t H5 nt s5 e5
    walk_at "rd"
    obtain ⟨kvs, e6, lk6, put6⟩ := go (Y := H) (R := Q) (E := E) (s4.trans s5) (oth := none) (fun x z => by cases z) (fun d hd => by
      have hw : Ch (lvO (ys ++ [co]) (fu o co none)) co [co] := .whole (by rw [look_in (by simp), fu_eq])
      rw [hd.inj hw]
      have := u.b0
      show (1 : Int) - 1 ≤ b
      omega) e5 rfl
    refine r_dputE e6 (szl (by rw [lk6]; omega)) fun H6 c6 => ?_
    obtain ⟨⟨dx6, ip6⟩, t6, fin⟩ := put6 H6 c6
    walk_at "rd"
    refine r_dgetE (.of t6) (nK_in cin) ?_
    rw [fu_eq]
    walk_at "rd"
    refine fin fun Z hZ => ?_
    walk_at "rd"
    rw [decide_eq_true rfl]
    exact hZ
  · have wv := t3 w4
    walk_at "rd"
    refine r_dgetE (.of wv) (nK_in oin) ?_
    rw [fu_ne hne]
    walk_at "rd"
    refine r_dgetE (.of wv) (nK_in cin) ?_
    rw [fu_eq]
    walk_at "rd"
    refine u_l_change_of (by omega) (by omega) fun t0 H5 nt0 s5 e5 => ?_
    walk_at "rd"
    intro t H6 nt s6 e6
    walk_at "rd"
    obtain ⟨kvs, e7, lk7, put7⟩ := go (Y := H) (R := Q) (E := E) (s4.trans (s5.trans s6)) (oth := some one) (kv := .ref t0) (fun x z => by cases z; exact hone) (fun d hd => by
      have hw : Ch (lvO (ys ++ [co]) (fu o co (some one))) co (co :: cc) := .lean (by rw [look_in (by simp), fu_eq]) (hcc.more u.new)
      rw [hd.inj hw, List.length_cons]
      omega) e6 ⟨t0, rfl, s6 _ _ e5⟩
    refine r_dputE e7 (szl (by rw [lk7]; omega)) fun H7 c7 => ?_
    obtain ⟨⟨dx7, ip7⟩, t7, fin⟩ := put7 H7 c7
    walk_at "rd"
    refine r_dgetE (.of t7) (nK_in cin) ?_
    rw [fu_eq]
    walk_at "rd"
    refine fin fun Z hZ => ?_
    walk_at "rd"
    rw [decide_eq_true rfl]
    exact hZ
def sp_l_root_told (A : Ad) : Sp := fun vs H Q E => ∃ (p dl ds : Addr) (b co : Int) (ks : List Int) (o : Int → Option Int) (k : Int → Kept) (tx : Int → List Nat) (n : Int) (c : List Int) (t : Bool), vs = [.ref p, .int n, .bl t] ∧ PkAt A H p dl ds b co ks o k ∧ n ∈ ks ∧ Gd ks o k tx ∧ Ch (lvO ks o) n c ∧
    (∀ (r : Nat) (H' : Hp), RS (lvO ks o) n r → (r : Int) ≤ b → Frm p dl ds H H' → PkAt A H' p dl ds b co ks (turnO c o) (fu (turnP c k) n (.tx (tx n))) → Q (.bl true) H') ∧
    ∀ (r : Nat) (H' : Hp), RS (lvO ks o) n r → b < (r : Int) → Same H H' → Q (.str (Str.ofString "refused")) H'
theorem u_root_told {A : Ad} {p dl ds : Addr} {b co : Int} {ks : List Int} {o : Int → Option Int} {k : Int → Kept} {tx : Int → List Nat} {n : Int} {c : List Int} {t : Bool} {H : Hp} {Q : VK} {E : XK} (h : PkAt A H p dl ds b co ks o k) (hn : n ∈ ks) (g : Gd ks o k tx) (hc : Ch (lvO ks o) n c)
    (q1 : ∀ (r : Nat) (H' : Hp), RS (lvO ks o) n r → (r : Int) ≤ b → Frm p dl ds H H' → PkAt A H' p dl ds b co ks (turnO c o) (fu (turnP c k) n (.tx (tx n))) → Q (.bl true) H')
    (q2 : ∀ (r : Nat) (H' : Hp), RS (lvO ks o) n r → b < (r : Int) → Same H H' → Q (.str (Str.ofString "refused")) H') : sp_l_root_told A [.ref p, .int n, .bl t] H Q E := ⟨p, dl, ds, b, co, ks, o, k, tx, n, c, t, rfl, h, hn, g, hc, q1, q2⟩
theorem r_eqNone {K : PySem.W.Frag} {H : Hp} {Q : VK} {x y : Addr} (h1 : H x = some (.lst [.non])) (h2 : H y = some (.lst [.non])) (h : Q (.bl true) H) : rEqG K (.ref x) (.ref y) H Q :=
  r_eqSame (.list [.none]) (.lst (.of h1) (.cons .non .nil)) (.lst (.of h2) (.cons .non .nil)) (by decide) h
def t_l_root_told (A : Ad) (E : XK) : TS := tCut (tIfS (tB (tVar 2)) (tTry A.K [([.ref A.cPackError], some 3, fun a cls d => tRet (tIf (tB (tCB (rIsX A.K cls d a) (tCons (tVar 3) (tCons (tC (.ty "ValueError")) (tNil))))) (tC (.str "refused")) (tC (.str "else"))))] (fun W => tRet (tOp (rEqG A.K) (tLst (tCons (tMethW A.cPack "root" (sp_P_root A) (WE W) (tVar 0) (tCons (tVar 1) (tNil))) (tNil))) (tLst (tCons (tC .non) (tNil)))))) (tNext)) (tTry A.K [([.ref A.cTooFar], none, fun a cls d => tRet (tC (.str "refused")))] (fun W => tRet (tOp (rEqG A.K) (tLst (tCons (tMethW A.cPack "root" (sp_P_root A) (WE W) (tVar 0) (tCons (tVar 1) (tNil))) (tNil))) (tLst (tCons (tC .non) (tNil))))))
theorem p_l_root_told (A : Ad) (pk : PkOk A) (ok : Okk A) {vs : List V} {H : Hp} {Q : VK} {E : XK} (h : sp_l_root_told A vs H Q E) : t_l_root_told A E { nx := fun _ H2 => Q .non H2, rt := Q } (start ["_law_pack", "_law_number", "_law_by_any", "e"] vs) H := by
  obtain ⟨p, dl, ds, b, co, ks, o, k, tx, n, c, t, rfl, hP, hn, g, hc, h1, h2⟩ := h
  obtain ⟨⟨dx, ip⟩, _⟩ := id hP
  (change t_l_root_told A E _ [_, _, _, none] _; unfold t_l_root_told)
  refine r_cut (fun σ' H' => σ' = [some (.ref p), some (.int n), some (.bl t), none] ∧ H' = H) ?_ ?_
  · walk_at "rd"
    cases t with
    | false =>
      walk_at "rd"
      exact ⟨rfl, rfl⟩
    | true =>
      walk_at "rd"
      refine ⟨p, dl, ds, b, co, ks, o, k, _, rfl, hP, .inl ⟨n, tx, c, rfl, hn, g, hc, fun r H1 hr hb f1 hP1 => ?_, fun r H1 hr hb s1 => ?_⟩⟩
      · walk_at "rd"
        intro q1 H2 nq1 s2 e2
        walk_at "rd"
        intro q2 H3 nq2 s3 e3
        refine r_eqNone (s3 _ _ e2) e3 ?_
        exact h1 r H3 hr hb (f1.sm (s2.trans s3)) (hP1.sm (s2.trans s3))
      · refine w_yes ok.pe fun a ha => ?_
        show tRet _ _ [some (.ref p), some (.int n), some (.bl true), some (.ref a)] H1
        walk_at "rd"
        refine r_isX ok.x ok.ve ?_
        walk_at "rd"
        exact h2 r H1 hr hb s1
  rintro σ' H' ⟨rfl, rfl⟩
  walk_at "rd"
  refine ⟨p, dl, ds, b, co, ks, o, k, _, rfl, hP, .inl ⟨n, tx, c, rfl, hn, g, hc, fun r H1 hr hb f1 hP1 => ?_, fun r H1 hr hb s1 => ?_⟩⟩
  · walk_at "rd"
    intro q1 H2 nq1 s2 e2
    walk_at "rd"
    intro q2 H3 nq2 s3 e3
    refine r_eqNone (s3 _ _ e2) e3 ?_
    exact h1 r H3 hr hb (f1.sm (s2.trans s3)) (hP1.sm (s2.trans s3))
  · refine w_yes ok.tf fun a ha => ?_
    show tRet _ _ [some (.ref p), some (.int n), some (.bl t), none] H1
    walk_at "rd"
    exact h2 r H1 hr hb s1
def sp_l_law (A : Ad) : Sp := fun vs H Q E => ∃ (a : Addr) (ns : List Int), vs = [.ref a] ∧ SqL A.K H a (ns.map V.int) ∧ ns.length ≤ 63 ∧ ∀ H', Q (.bl true) H'
theorem end_law {A : Ad} {H : Hp} {Q : VK} {E : XK} (a : Addr) (ns : List Int) (hl : ns.length ≤ 63) (hS : SqL A.K H a (ns.map V.int)) (hq : ∀ H', Q (.bl true) H') : sp_l_law A [.ref a] H Q E := ⟨a, ns, rfl, hS, hl, hq⟩
/-- what stays to the end -/
structure Fx (A : Ad) (H : Hp) (a : Addr) (ns : List Int) (q el es rl dk0 L dt0 : Addr) (b co0 : Int) (ys0 ks0 : List Int) (o0 : Int → Option Int) (k0 : Int → Kept) : Prop where
  sc : SqL A.K H a (ns.map V.int)
  pq : PkAt A H q el es b co0 ys0 o0 k0
  rr : RowsAt H rl ys0 o0 k0
  kk : KeptAt H dk0 ks0 o0 k0
  ll : H L = some (.lst [.ref dk0, .ref dt0])
theorem Fx.kp {A : Ad} {H H' : Hp} {a : Addr} {ns : List Int} {q el es rl dk0 L dt0 : Addr} {b co0 : Int} {ys0 ks0 : List Int} {o0 : Int → Option Int} {k0 : Int → Kept} {av : List Addr} (h : Fx A H a ns q el es rl dk0 L dt0 b co0 ys0 ks0 o0 k0) (m : Kp av H H') (hn : Dj [q, el, es, rl, dk0, L] av) (ha : a ∉ av ∨ ∀ H', SqL A.K H' a (ns.map V.int)) : Fx A H' a ns q el es rl dk0 L dt0 b co0 ys0 ks0 o0 k0 :=
  ⟨m.sql h.sc ha, h.pq.kp m (hn q (by simp)) (hn el (by simp)) (hn es (by simp)), h.rr.kp m (hn rl (by simp)), h.kk.kp m (hn dk0 (by simp)), m.1 _ _ (hn L (by simp)) h.ll⟩
theorem Fx.sm {A : Ad} {H H' : Hp} {a : Addr} {ns : List Int} {q el es rl dk0 L dt0 : Addr} {b co0 : Int} {ys0 ks0 : List Int} {o0 : Int → Option Int} {k0 : Int → Kept} (h : Fx A H a ns q el es rl dk0 L dt0 b co0 ys0 ks0 o0 k0) (s : Same H H') : Fx A H' a ns q el es rl dk0 L dt0 b co0 ys0 ks0 o0 k0 :=
  h.kp (av := []) (.of s) Dj.nil (.inl (by simp))
theorem Fx.al {A : Ad} {H : Hp} {a : Addr} {ns : List Int} {q el es rl dk0 L dt0 : Addr} {b co0 : Int} {ys0 ks0 : List Int} {o0 : Int → Option Int} {k0 : Int → Kept} (h : Fx A H a ns q el es rl dk0 L dt0 b co0 ys0 ks0 o0 k0) : Al H [q, el, es, rl, dk0, L] := by
  obtain ⟨⟨dx, h1⟩, h2, ⟨sv, h3, _⟩, _⟩ := h.pq
  obtain ⟨ra, h4, _⟩ := h.rr
  obtain ⟨ka, h5, _⟩ := h.kk
  exact .cons (.cons (.cons (.cons (.cons (.cons .nil h.ll) h5) h4) h3) h2) h1
def t_l_law (A : Ad) (E : XK) : TS := tSeq (tAsg (tOp rAdd3 (tC (.int 1)) (tOp rMod (tCall (sp_l_cell_at A) [] E0 (tCons (tVar 0) (tCons (tC (.int 0)) (tNil)))) (tC (.int 8)))) (gName 1)) (tCut (tIfS (tTest (tOp (rEqG A.K) (tOp rMod (tOp rDiv (tCall (sp_l_cell_at A) [] E0 (tCons (tVar 0) (tCons (tC (.int 0)) (tNil)))) (tC (.int 8))) (tC (.int 8))) (tC (.int 1)))) (tAsg (tOp rAdd3 (tVar 1) (tC (.int 6))) (gName 1)) (tNext)) (tSeq (tAsg (tCall (sp_l_made A) [] E0 (tCons (tCall (sp_l_cells A) [] E0 (tCons (tVar 0) (tCons (tC (.int 6)) (tCons (tVar 1) (tNil))))) (tCons (tCall (sp_l_cell_at A) [] E0 (tCons (tVar 0) (tCons (tC (.int 1)) (tNil)))) (tNil)))) (gName 2)) (tSeq (tAsg (tOp (rIx A.K) (tVar 2) (tC (.int 0))) (gName 3)) (tSeq (tAsg (tCB (rMin2) (tCons (tC (.int 1000)) (tCons (tOp rAdd3 (tOp (rIx A.K) (tLst (tCons (tC (.int 0)) (tCons (tC (.int 1)) (tCons (tC (.int 2)) (tCons (tC (.int 1000)) (tNil)))))) (tOp rMod (tCall (sp_l_cell_at A) [] E0 (tCons (tVar 0) (tCons (tC (.int 2)) (tNil)))) (tC (.int 4)))) (tCall (sp_l_longest A) [] E0 (tCons (tVar 3) (tNil)))) (tNil)))) (gName 4)) (tSeq (tAsg (tCall (sp_l_rows_of A) [] E0 (tCons (tVar 3) (tNil))) (gName 5)) (tSeq (tAsg (tCall (sp_opened A) [] E0 (tCons (tVar 5) (tCons (tVar 4) (tNil)))) (gName 6)) (tSeq (tAsg (tCall (sp_opened A) [] E0 (tCons (tVar 5) (tCons (tVar 4) (tNil)))) (gName 7)) (tSeq (tAsg (tLst (tNil)) (gName 8)) (tSeq (tAsg (tCB (rDictD) (tCons (tOp (rIx A.K) (tVar 2) (tC (.int 1))) (tNil))) (gName 9)) (tSeq (tAsg (tOp (rIx A.K) (tCB (rSortedDI) (tCons (tVar 3) (tNil))) (tUn rNeg (tC (.int 1)))) (gName 10)) (tSeq (tFor (iRng1 (tCons (tC (.int 3)) (tNil))) (gName 11) (tSeq (tAsg (tCall (sp_l_cell_at A) [] E0 (tCons (tVar 0) (tCons (tOp rAdd3 (tC (.int 3)) (tVar 11)) (tNil)))) (gName 12)) (tCut (tIfS (tAnd (tTest (tOp (rEqG A.K) (tVar 11) (tC (.int 2)))) (tTest (tOp (rEqG A.K) (tOp rMod (tOp rDiv (tVar 12) (tC (.int 40))) (tC (.int 2))) (tC (.int 1))))) (tSeq (tAsg (tCB (rDictD) (tCons (tVar 3) (tNil))) (gName 3)) (tSeq (tAsg (tOp rAdd3 (tVar 10) (tC (.int 1))) (gName 10)) (tIfS (tNot (tB (tCall (sp_l_one_more A) [] E0 (tCons (tVar 6) (tCons (tVar 3) (tCons (tVar 9) (tCons (tVar 4) (tCons (tVar 10) (tCons (tVar 12) (tNil)))))))))) (tRet (tC (.bl false))) (tNext)))) (tNext)) (tCut (tIfS (tOr (tNot (tB (tCB (rIsi A.K) (tCons (tVar 6) (tCons (tC (.ref A.cPack)) (tNil)))))) (tNot (tB (tCall (sp_l_asked A) [] E0 (tCons (tVar 6) (tCons (tVar 3) (tCons (tVar 9) (tCons (tVar 12) (tCons (tVar 8) (tNil)))))))))) (tRet (tC (.bl false))) (tNext)) (tSeq (tAsg (tOp (rIx A.K) (tCB (rSortedDI) (tCons (tVar 3) (tNil))) (tOp rMod (tVar 12) (tCB (rLenG A.K) (tCons (tVar 3) (tNil))))) (gName 13)) (tSeq (tAsg (tC (.bl true)) (gName 14)) (tCut (tIfS (tTest (tOp (rGt) (tCall (sp_l_far A) [] E0 (tCons (tVar 3) (tCons (tVar 13) (tNil)))) (tVar 4))) (tAsg (tC (.str "refused")) (gName 14)) (tAsg (tCall (sp_l_turned A) [] E0 (tCons (tVar 3) (tCons (tVar 13) (tCons (tDGet (tVar 9) (tVar 13)) (tNil))))) (gName 3))) (tIfS (tOr (tTest (tOp (rNeG A.K) (tCall (sp_l_root_told A) [] E0 (tCons (tVar 6) (tCons (tVar 13) (tCons (tOp (rEqG A.K) (tOp rMod (tOp rDiv (tVar 12) (tC (.int 20))) (tC (.int 2))) (tC (.int 1))) (tNil))))) (tVar 14))) (tNot (tB (tCall (sp_l_seen A) [] E0 (tCons (tVar 6) (tCons (tVar 3) (tCons (tOp rDiv (tVar 12) (tC (.int 21))) (tNil)))))))) (tRet (tC (.bl false))) (tNext))))))))) (tSeq (tLock (tFor (iKeys (tVar 3)) (gName 15) (tIfS (tTest (tOp (rNeG A.K) (tMeth A.cPack "read" (sp_P_read A) [] E0 (tVar 6) (tCons (tVar 15) (tNil))) (tDGet (tVar 9) (tVar 15)))) (tRet (tC (.bl false))) (tNext)))) (tCut (tIfS (tOr (tNot (tB (tCall (sp_l_held_well A) [] E0 (tCons (tVar 8) (tNil))))) (tOr (tNot (tB (tCall (sp_l_rows_are A) [] E0 (tCons (tMeth A.cPack "rows" (sp_P_rows A) [] E0 (tVar 7) (tNil)) (tCons (tOp (rIx A.K) (tVar 2) (tC (.int 0))) (tNil)))))) (tNot (tB (tCall (sp_l_rows_are A) [] E0 (tCons (tVar 5) (tCons (tOp (rIx A.K) (tVar 2) (tC (.int 0))) (tNil)))))))) (tRet (tC (.bl false))) (tNext)) (tRet (tAndV (tOp (rEqG A.K) (tMeth A.cPack "store" (sp_P_store A) [] E0 (tVar 6) (tCons (tC (.str "a")) (tCons (tC .non) (tNil)))) (tOp rAdd3 (tVar 10) (tC (.int 1)))) (tCall (sp_l_rows_are A) [] E0 (tCons (tMeth A.cPack "rows" (sp_P_rows A) [] E0 (tVar 7) (tNil)) (tCons (tOp (rIx A.K) (tVar 2) (tC (.int 0))) (tNil)))))))))))))))))))
theorem p_l_law (A : Ad) (pk : PkOk A) (ok : Okk A) {vs : List V} {H : Hp} {Q : VK} {E : XK} (h : sp_l_law A vs H Q E) : t_l_law A E { nx := fun _ H2 => Q .non H2, rt := Q } (start ["_law_script", "_law_many", "_law_made_here", "_law_kept", "_law_bound", "_law_rows", "_law_pack", "_law_other", "_law_held", "_law_texts", "_law_last", "_law_k", "_law_cell", "_law_number", "_law_due", "_law_one"] vs) H := by
  obtain ⟨a, ns, rfl, hS, hl, h1⟩ := h
  (change t_l_law A E _ [_, none, none, none, none, none, none, none, none, none, none, none, none, none, none, none] _; unfold t_l_law; walk_at "rd")
  refine r_cut (fun σ' H' => ∃ m : Nat, σ' = [some (.ref a), some (.int m), none, none, none, none, none, none, none, none, none, none, none, none, none, none] ∧ 1 ≤ m ∧ m ≤ 14 ∧ H' = H) ?_ ?_
  · walk_at "rd"
    refine r_dec (fun c => ?_) (fun c => ?_)
    · walk_at "rd"
      exact ⟨(1 + cellAt ns 0 % 8 + 6).toNat, by rw [Int.toNat_of_nonneg (by omega)], by omega, by omega, rfl⟩
    · walk_at "rd"
      exact ⟨(1 + cellAt ns 0 % 8).toNat, by rw [Int.toNat_of_nonneg (by omega)], by omega, by omega, rfl⟩
  rintro σ' H0 ⟨m, rfl, m1, m2, rfl⟩
  walk_at "rd"
  refine ⟨a, ns, 6, m, rfl, hS, hl, by omega, by omega, by omega, fun c p3 H3 hc s3 np3 e3 => ?_⟩
  rw [Int.toNat_natCast] at hc
  have hS3 := s3.seq hS
  walk_at "rd"
  refine ⟨p3, c, _, m, rfl, e3, hc, by omega, by omega, fun L dk0 dt0 H4 ks0 o0 k0 tx0 s4 nL nk nt nkt eL hK hT g hkl hk0 hsz0 => ?_⟩
  have s04 := s3.trans s4
  have hS4 := s04.seq hS
  walk_at "rd"
  intro pm H5 npm s5 e5
  have hS5 := s5.seq hS4
  have eL5 := s5 _ _ eL
  walk_at "rd"
  obtain ⟨v, hv, v0⟩ : ∃ v : Int, atI [V.int 0, V.int 1, V.int 2, V.int 1000] (cellAt ns 2 % 4) = some (.int v) ∧ 0 ≤ v := by
    have h : cellAt ns 2 % 4 = 0 ∨ cellAt ns 2 % 4 = 1 ∨ cellAt ns 2 % 4 = 2 ∨ cellAt ns 2 % 4 = 3 := by omega
    rcases h with h | h | h | h <;> rw [h]
    · exact ⟨0, rfl, by decide⟩
    · exact ⟨1, rfl, by decide⟩
    · exact ⟨2, rfl, by decide⟩
    · exact ⟨1000, rfl, by decide⟩
  refine r_ixL (.of e5) hv ?_
  walk_at "rd"
  refine ⟨dk0, ks0, o0, k0, tx0, rfl, hK.sm s5, g, by omega, fun lg H6 hlg ⟨n0, c0, hn0, hc0, elg⟩ s6 => ?_⟩
  have lc0 := hc0.len
  rw [len_lvO] at lc0
  have pc0 : 0 < c0.length := by obtain ⟨r, rfl⟩ := hc0.head; exact Nat.succ_pos _
  have s46 := s5.trans s6
  have s06 := s04.trans s46
  have hK6 := hK.sm s46
  have hT6 : TextsAt H6 dt0 ks0 tx0 := s46 _ _ hT
  have eL6 := s46 _ _ eL
  clear hK hT hS4 hS5 e5 eL eL5 hS3 e3
  walk_at "rd"
  obtain ⟨b, eb, bb0, bb1, bb2⟩ : ∃ b, min 1000 (v + lg) = b ∧ 0 ≤ b ∧ b ≤ 1000 ∧ lg ≤ b := ⟨_, rfl, by omega, by omega, by omega⟩
  rw [eb]
  refine u_rows_of hK6 g.nd (by omega) fun ys0 rl H7 hp hs s7 nr hR => ?_
  have gy := g.perm hp
  have yl : ys0.length < 64 := by rw [hp.length_eq]; omega
  have hy0 : ∀ n ∈ ys0, 0 ≤ n := fun n hn => hk0 n (hp.mem_iff.mp hn)
  have hK7 := hK6.sm s7
  have hT7 : TextsAt H7 dt0 ks0 tx0 := s7 _ _ hT6
  have eL7 := s7 _ _ eL6
  have hch : ∀ n c, Ch (lvO ys0 o0) n c → (c.length : Int) - 1 ≤ b := fun n c hc => by
    have := hlg n c (Ch.mem_eq (fun n => hp.mem_iff) hc)
    omega
  walk_at "rd"
  refine ⟨rl, b, ys0, o0, k0, tx0, rfl, hR, hs, hy0, gy, bb0, bb1, hch, fun p dl ds H8 s8 np nl ns' hP => ?_⟩
  have hR8 := hR.of_sm s8
  walk_at "rd"
  refine ⟨rl, b, ys0, o0, k0, tx0, rfl, hR8, hs, hy0, gy, bb0, bb1, hch, fun q el es H9 s9 nq nel nes hQ => ?_⟩
  walk_at "rd"
  intro ph H10 nph s10 e10
  have s710 := s8.trans (s9.trans s10)
  have eL10 := s710 _ _ eL7
  have hT10 : TextsAt H10 dt0 ks0 tx0 := s710 _ _ hT7
  walk_at "rd"
  refine r_dictD (.of (show H10 dt0 = _ from hT10)) fun dt H11 ndt s11 e11 => ?_
  have s711 := s710.trans s11
  have s911 := s10.trans s11
  have hK11 := hK7.sm s711
  obtain ⟨ka11, ek11, _⟩ := id hK11
  walk_at "rd"
  refine r_sortK (.of ek11) (by omega) fun zs h2 h3 pz H12 nz s12 e12 => ?_
  rw [rising_eq (h2.trans hp.symm) h3 hs] at e12
  have yne : ys0 ≠ [] := fun z => by have := hp.length_eq; rw [z] at this; simp at this; omega
  obtain ⟨yr, yz, ey, ec⟩ := come_last yne
  walk_at "rd"
  refine r_ixL (.of e12) (v := .int yz) (by rw [ey, List.map_append]; exact atI_last _ _) ?_
  rw [show yz = comeOfK ys0 - 1 by omega]
  have c0nn : 0 ≤ comeOfK ys0 := come_nn hy0
  have hlt := lt_come hs
  generalize comeOfK ys0 = co0 at *
  have s3d : ∀ x ∈ [p, dl, ds], x ∈ [ph, dt, p, dl, ds] := fun x hx => by
    simp only [List.mem_cons, List.not_mem_nil, or_false] at hx ⊢
    rcases hx with h | h | h <;> simp [h]
  have al7 : Al H7 [rl, dk0, L] := by
    obtain ⟨ra, h, _⟩ := hR
    obtain ⟨ka, h5, _⟩ := hK7
    exact .cons (.cons (.cons .nil eL7) h5) h
  have d1 : Dj [rl, dk0, L] [p, dl, ds] := .cons (.cons (.cons .nil (al7.no ns')) (al7.no nl)) (al7.no np)
  have al8 : Al H8 [p, dl, ds] := by
    obtain ⟨⟨dx, h1⟩, h2, ⟨sv, h3, _⟩, _⟩ := hP
    exact .cons (.cons (.cons .nil h3) h2) h1
  have d2 : Dj [p, dl, ds] [q, el, es] := .cons (.cons (.cons .nil (al8.no nes)) (al8.no nel)) (al8.no nq)
  have d3 : Dj [q, el, es, rl, dk0, L] [p, dl, ds] := Dj.app (xs := [q, el, es]) d2.swap d1
  have fx9 : Fx A H9 a ns q el es rl dk0 L dt0 b co0 ys0 ks0 o0 k0 := ⟨(s06.trans (s7.trans (s8.trans s9))).seq hS, hQ, hR8.of_sm s9, hK7.sm (s8.trans s9), s9 _ _ (s8 _ _ eL7)⟩
  have fx12 := fx9.sm (s911.trans s12)
  have d4 : Dj [q, el, es, rl, dk0, L] [ph, dt, p, dl, ds] := .cons (.cons d3 (fx9.al.no (s10.free ndt))) (fx9.al.no nph)
  have hav : a ∉ [ph, dt, p, dl, ds] ∨ ∀ H', SqL A.K H' a (ns.map V.int) := sc_of hS fun d hd => by
    have t7 := s06.trans s7
    simp only [List.mem_cons, List.not_mem_nil, or_false] at hd
    rcases hd with rfl | rfl | rfl | rfl | rfl
    · exact (t7.trans (s8.trans s9)).free nph
    · exact (t7.trans s710).free ndt
    · exact t7.free np
    · exact t7.free nl
    · exact t7.free ns'
  have hP12 := hP.sm ((s9.trans s10).trans (s11.trans s12))
  have hT12 : TextsAt H12 dt ks0 tx0 := s12 _ _ e11
  have ep12 := (s11.trans s12) _ _ e10
  have w12 : Wo A H12 p dl ds dk0 dt ph b co0 ys0 ks0 ks0 o0 k0 tx0 0 := by
    obtain ⟨⟨dx, h1⟩, h2, ⟨sv, h3, _⟩, _⟩ := id (hP.sm s9)
    refine ⟨hP12, fx12.kk, hT12, ⟨[], ep12, rfl, fun v hv => by cases hv⟩, ?_, ?_, ?_, ?_, ?_⟩
    · exact fun z => d3 dk0 (by simp) (by simp [z])
    · exact fun z => d3 dk0 (by simp) (by simp [z])
    · exact fun z => by rw [z, s10 _ _ h2] at ndt; cases ndt
    · exact fun z => by rw [z, s10 _ _ h3] at ndt; cases ndt
    · exact fun z => d4 dk0 (by simp) (by simp [z])
  have u12 : Pu b co0 ys0 ks0 ks0 o0 k0 tx0 1000 := ⟨bb0, hp, hs, hy0, hlt, gy, fun n hn => hn, fun n hn => hsz0 n (hp.mem_iff.mp hn)⟩
  clear d1 d2 d3 al7 al8 fx9 hS e12 e11 e10 ep12 hT12 hP12 hP hQ hR hR8 eL7 eL10 hT10 hT7 hT6 hK7 hK6 eL6 hK11 ek11 nph ndt np nl ns' nq nel nes nz s06 s7 s8 s9 s10 s11 s12 s710 s711 s911 s04 s3 s4 s5 s6 s46 hlg hc0 elg hv hch
  walk_at "rd"
  refine for_go (walk_rng0 (n := (3 : Int).toNat)) (fun i σ X => ∃ (dk : Addr) (co : Int) (y11 y12 y13 y14 : Option V) (ys ks ts : List Int) (o : Int → Option Int) (k : Int → Kept) (tx : Int → List Nat) (N : Nat),
      σ = [some (.ref a), some (.int m), some (.ref L), some (.ref dk), some (.int b), some (.ref rl), some (.ref p), some (.ref q), some (.ref ph), some (.ref dt), some (.int (co - 1)), y11, y12, y13, y14, none] ∧
      Wo A X p dl ds dk dt ph b co ys ks ts o k tx i ∧ Pu b co ys ks ts o k tx N ∧ Fx A X a ns q el es rl dk0 L dt0 b co0 ys0 ks0 o0 k0 ∧ 0 ≤ co ∧ 0 < ks.length ∧ ks.length ≤ 14 + i ∧ ts.length ≤ 14 + i ∧ N ≤ 1000 + 10 * i)
    ⟨dk0, co0, none, none, none, none, ys0, ks0, ks0, o0, k0, tx0, 1000, rfl, w12, u12, fx12, c0nn, by omega, by omega, by omega, by omega⟩ (fun _ _ _ _ _ => trivial) ?_ ?_
  · rintro i x σ X X' hi ⟨dk, co, y11, y12, y13, y14, ys, ks, ts, o, k, tx, N, rfl, w, u, fx, hco, hk0, hkl, htl, hN⟩ ⟨rfl, rfl⟩
    have hi : i < 3 := hi
    have hSX := fx.sc
    walk_at "rd"
    generalize cellAt ns (3 + (i : Int)) = cell
    refine r_cut (fun σ' X2 => ∃ (dk : Addr) (co : Int) (ys ks ts : List Int) (o : Int → Option Int) (k : Int → Kept) (tx : Int → List Nat) (N : Nat),
      σ' = [some (.ref a), some (.int m), some (.ref L), some (.ref dk), some (.int b), some (.ref rl), some (.ref p), some (.ref q), some (.ref ph), some (.ref dt), some (.int (co - 1)), some (.int i), some (.int cell), y13, y14, none] ∧
      Wo A X2 p dl ds dk dt ph b co ys ks ts o k tx i ∧ Pu b co ys ks ts o k tx N ∧ Fx A X2 a ns q el es rl dk0 L dt0 b co0 ys0 ks0 o0 k0 ∧ 0 ≤ co ∧ 0 < ks.length ∧ ks.length ≤ 15 + i ∧ ts.length ≤ 15 + i ∧ N ≤ 1010 + 10 * i) ?_ ?_
    · walk_at "rd"
      refine r_dec (fun z => ?_) fun z => ?_
      · walk_at "rd"
        refine r_dec (fun z2 => ?_) fun z2 => ?_
        · obtain ⟨ka, ek, _⟩ := id w.kp
          walk_at "rd"
          refine r_dictD (.of ek) fun dk2 X2 nk2 s2 e2 => ?_
          have w2 := w.copy nk2 s2 ek e2
          have fx2 := fx.sm s2
          have n2 : dk2 ∉ [q, el, es, rl, dk0, L] := fx.al.no nk2
          have a2 : a ≠ dk2 ∨ ∀ H', SqL A.K H' a (ns.map V.int) := sql_or fx.sc nk2
          walk_at "rd"
          rw [show co - 1 + 1 = co by omega]
          refine u_one_more w2 u hco hk0 (by omega) (by omega) (by omega) fun o' k' tx' X3 w3 u3 k3 => ?_
          have fx3 := fx2.kp k3 (by
            intro x hx hy
            simp only [List.mem_cons, List.not_mem_nil, or_false] at hy
            rcases hy with h | h | h | h | h
            · exact d4 x hx (by simp [h])
            · exact d4 x hx (by simp [h])
            · exact d4 x hx (by simp [h])
            · exact n2 (h ▸ hx)
            · exact d4 x hx (by simp [h])) (by
            rcases hav with h | h
            · rcases a2 with h2 | h2
              · simp only [List.mem_cons, List.not_mem_nil, or_false, not_or] at h ⊢
                exact .inl ⟨h.2.2.1, h.2.2.2.1, h.2.2.2.2, h2, h.2.1⟩
              · exact .inr h2
            · exact .inr h)
          walk_at "rd"
          refine ⟨dk2, co + 1, _, _, _, o', k', tx', _, by rw [show co + 1 - 1 = co by omega], w3, u3, fx3, by omega, by rw [List.length_append]; exact Nat.lt_add_left _ Nat.one_pos, by rw [List.length_append]; show ks.length + 1 ≤ _; omega, by have := addK_len ts co; omega, by omega⟩
        · walk_at "rd"
          exact ⟨dk, co, ys, ks, ts, o, k, tx, N, rfl, w, u, fx, hco, hk0, by omega, by omega, by omega⟩
      · walk_at "rd"
        exact ⟨dk, co, ys, ks, ts, o, k, tx, N, rfl, w, u, fx, hco, hk0, by omega, by omega, by omega⟩
    clear w u fx hco hk0 hkl htl hN hSX
    rintro σ' X2 ⟨dk, co, ys, ks, ts, o, k, tx, N, rfl, w, u, fx, hco, hk0, hkl, htl, hN⟩
    refine r_cut (fun σ' X3 => σ' = [some (.ref a), some (.int m), some (.ref L), some (.ref dk), some (.int b), some (.ref rl), some (.ref p), some (.ref q), some (.ref ph), some (.ref dt), some (.int (co - 1)), some (.int i), some (.int cell), y13, y14, none] ∧
      Wo A X3 p dl ds dk dt ph b co ys ks ts o k tx (i + 1) ∧ Fx A X3 a ns q el es rl dk0 L dt0 b co0 ys0 ks0 o0 k0) ?_ ?_
    · walk_at "rd"
      obtain ⟨dx, ip⟩ := w.ip
      refine r_isPk ok.i pk ip ?_
      walk_at "rd"
      refine u_asked w u hk0 (by omega) (by omega) fun X3 w3 k3 => ?_
      walk_at "rd"
      exact ⟨rfl, w3, fx.kp k3 (d4.sub (by simp)) (hav.imp (fun h z => h (by rw [List.mem_singleton] at z; simp [z])) id)⟩
    clear w fx
    rintro σ' X3 ⟨rfl, w, fx⟩
    obtain ⟨ka, ek, _⟩ := id w.kp
    walk_at "rd"
    refine r_sortK (.of ek) (by omega) fun zs h2 h3 pz X4 nz s4 e4 => ?_
    rw [rising_eq (h2.trans u.perm.symm) h3 u.ris] at e4
    have ek4 := s4 _ _ ek
    walk_at "rd"
    rw [nK_len]
    walk_at "rd"
    obtain ⟨j, ej⟩ : ∃ j : Nat, cell % (ks.length : Int) = j := ⟨(cell % (ks.length : Int)).toNat, by have := Int.emod_nonneg cell (show (ks.length : Int) ≠ 0 by omega); omega⟩
    have hj : j < ys.length := by have := Int.emod_lt_of_pos cell (show (0 : Int) < ks.length by omega); rw [u.perm.length_eq]; omega
    rw [ej]
    refine r_ixL (.of e4) (v := .int ys[j]) (atI_nat (by rw [List.getElem?_map, List.getElem?_eq_getElem hj]; rfl)) ?_
    have hone : ys[j] ∈ ys := List.getElem_mem hj
    generalize ys[j] = one at *
    have honek := u.mem.mp hone
    have hones := u.sub one honek
    obtain ⟨cc, hcc, hccl⟩ := u.gd.ch hone
    have hcck := Ch.mem_eq (fun n => u.mem) hcc
    have gk := u.gd.perm u.perm.symm
    have w4 := w.sm s4
    have fx4 := fx.sm s4
    clear e4 ek4 ek w fx nz
    walk_at "rd"
    -- the law's way and the pack's way
    refine r_cut (fun σ' X5 => ∃ r : Nat, RS (lvO ks o) one r ∧ ((((r : Int) ≤ b) ∧ ∃ dk2, σ' = [some (.ref a), some (.int m), some (.ref L), some (.ref dk2), some (.int b), some (.ref rl), some (.ref p), some (.ref q), some (.ref ph), some (.ref dt), some (.int (co - 1)), some (.int i), some (.int cell), some (.int one), some (.bl true), none] ∧ X4 dk2 = none ∧ Same X4 X5 ∧ KeptAt X5 dk2 ks (turnO cc o) (fu (turnP cc k) one (.tx (tx one)))) ∨
        (b < (r : Int) ∧ σ' = [some (.ref a), some (.int m), some (.ref L), some (.ref dk), some (.int b), some (.ref rl), some (.ref p), some (.ref q), some (.ref ph), some (.ref dt), some (.int (co - 1)), some (.int i), some (.int cell), some (.int one), some (.str (Str.ofString "refused")), none] ∧ Same X4 X5))) ?_ ?_
    · walk_at "rd"
      refine u_far w4.kp gk honek fun r X5 hr s5 => ?_
      walk_at "rd"
      refine r_dec (fun z => ?_) fun z => ?_
      · walk_at "rd"
        exact ⟨r, hr, .inr ⟨z, rfl, s5⟩⟩
      · have w5 := w4.sm s5
        walk_at "rd"
        refine r_dgetE (.of (show X5 dt = _ from w5.tt)) (nK_in hones) ?_
        walk_at "rd"
        refine u_turned w5.kp gk honek hcck fun dk2 X6 s6 nk2 hK6 => ?_
        walk_at "rd"
        exact ⟨r, hr, .inl ⟨by omega, dk2, rfl, s5.free nk2, s5.trans s6, hK6⟩⟩
    rintro σ' X5 ⟨r, hr, hcase⟩
    have rsy : ∀ {r' : Nat}, RS (lvO ys o) one r' → r' = r := fun {r'} h => by
      have mv : ∀ {x c}, Ch (lvO ys o) x c ↔ Ch (lvO ks o) x c := fun {x c} => ⟨Ch.mem_eq fun n => u.mem, Ch.mem_eq fun n => u.mem.symm⟩
      obtain ⟨d, hd, ⟨x, c, hx, hl, hb⟩, hm⟩ := h
      refine RS.inj (lv := lvO ks o) ⟨d, mv.mp hd, ⟨x, c, mv.mp hx, hl, hb⟩, fun x k hf => ?_⟩ hr
      obtain ⟨c2, h1, h2, h3⟩ := hf
      exact hm x k ⟨c2, mv.mpr h1, h2, h3⟩
    rcases hcase with ⟨hrb, dk2, rfl, nk2, s5, hK5⟩ | ⟨hrb, rfl, s5⟩
    · have w5 := w4.sm s5
      have fx5 := fx4.sm s5
      walk_at "rd"
      refine u_root_told w5.pk hone u.gd hcc (fun r' X6 hr' hb' f6 hP6 => ?_) fun r' X6 hr' hb' s6 => by have := rsy hr'; omega
      have w6 : Wo A X6 p dl ds dk2 dt ph b co ys ks ts _ _ tx (i + 1) := w4.again nk2 s5 hK5 f6 hP6
      have u6 := u.turn hcc
      have m6 : Kp [p, dl, ds] X5 X6 := Kp.frm f6 w5.pk (by simp) (by simp) (by simp)
      have fx6 := fx5.kp m6 (d4.sub s3d) (hav.imp (fun h z => h (s3d _ z)) id)
      walk_at "rd"
      refine r_neV rfl ?_
      rw [decide_eq_true rfl]
      walk_at "rd"
      refine u_seen w6.pk w6.kp u.perm u.ris (by omega) u6.gd fun X7 s7 => ?_
      walk_at "rd"
      exact ⟨dk2, co, _, _, _, _, ys, ks, ts, _, _, tx, N, rfl, w6.sm s7, u6, fx6.sm s7, hco, hk0, by omega, by omega, by omega⟩
    · have w5 := w4.sm s5
      have fx5 := fx4.sm s5
      walk_at "rd"
      refine u_root_told w5.pk hone u.gd hcc (fun r' X6 hr' hb' f6 hP6 => by have := rsy hr'; omega) fun r' X6 hr' hb' s6 => ?_
      have w6 := w5.sm s6
      walk_at "rd"
      refine r_ndec (fun z => absurd rfl z) fun _ => ?_
      walk_at "rd"
      refine u_seen w6.pk w6.kp u.perm u.ris (by omega) u.gd fun X7 s7 => ?_
      walk_at "rd"
      exact ⟨dk, co, _, _, _, _, ys, ks, ts, o, k, tx, N, rfl, w6.sm s7, u, (fx5.sm s6).sm s7, hco, hk0, by omega, by omega, by omega⟩
  · rintro σ X ⟨dk, co, y11, y12, y13, y14, ys, ks, ts, o, k, tx, N, rfl, w, u, fx, hco, hk0, hkl, htl, hN⟩
    have hkl : ks.length ≤ 17 := hkl
    obtain ⟨ka, ek, _⟩ := id w.kp
    walk_at "rd"
    refine r_lock ek fun od X1 c1 => ?_
    have hP1 := w.pk.mv ek c1 w.n1 w.n2
    have hT1 : TextsAt X1 dt ts tx := c1.2 _ _ w.n5.symm w.tt
    walk_at "rd"
    refine ⟨dk, od, rfl, .inl ⟨_, c1.1, ?_⟩⟩
    refine for_go walk_keys (fun i σ X2 => ∃ y15 : Option V, σ = [some (.ref a), some (.int m), some (.ref L), some (.ref dk), some (.int b), some (.ref rl), some (.ref p), some (.ref q), some (.ref ph), some (.ref dt), some (.int (co - 1)), y11, y12, y13, y14, y15] ∧ Same X1 X2) ⟨none, rfl, fun _ _ z => z⟩ (fun i σ X2 hi ⟨_, _, s⟩ => s _ _ c1.1) ?_ ?_
    · rintro i x σ X2 X3 hi ⟨y15, rfl, s2⟩ ⟨rfl, kk, v, hk, rfl⟩
      rw [nK_len] at hi
      rw [nK_at hi] at hk
      cases hk
      have hci : ks[i] ∈ ks := List.getElem_mem hi
      show gName 15 (.int ks[i]) _ _ _
      generalize ks[i] = one at *
      have hP2 := hP1.sm s2
      obtain ⟨⟨dx2, ip2⟩, _⟩ := id hP2
      walk_at "rd"
      refine u_read hP2.r (u.mem.mpr hci) u.gd fun X4 s4 => ?_
      walk_at "rd"
      refine r_dgetE (.of (s4 _ _ (s2 _ _ hT1))) (nK_in (u.sub one hci)) ?_
      walk_at "rd"
      refine r_ndec (fun z => absurd rfl z) fun _ => ?_
      walk_at "rd"
      exact ⟨_, rfl, s2.trans s4⟩
    rintro σ X2 ⟨y15, rfl, s2⟩
    refine un (s2 _ _ c1.1) fun X3 c3 => ?_
    have s3 := same_lock ek c1 s2 c3
    have w3 := w.sm s3
    have fx3 := fx.sm s3
    clear c1 c3 hP1 hT1 ek s2
    refine r_cut (fun σ' X4 => σ' = [some (.ref a), some (.int m), some (.ref L), some (.ref dk), some (.int b), some (.ref rl), some (.ref p), some (.ref q), some (.ref ph), some (.ref dt), some (.int (co - 1)), y11, y12, y13, y14, y15] ∧ Same X3 X4) ?_ ?_
    · walk_at "rd"
      refine u_held_well w3.hd ?_
      walk_at "rd"
      obtain ⟨dxq, ipq⟩ := fx3.pq.ip
      walk_at "rd"
      refine ⟨q, el, es, b, co0, ys0, o0, k0, rfl, fx3.pq.r, hs, yl, fun r4 X4 s4 nr4 hR4 => ?_⟩
      have fx4 := fx3.sm s4
      have eL4 := fx4.ll
      walk_at "rd"
      refine u_rows_are hR4 fx4.kk hp hs (by omega) gy (fun _ _ => rfl) (fun _ _ => rfl) fun X5 s5 => ?_
      have fx5 := fx4.sm s5
      have eL5 := fx5.ll
      walk_at "rd"
      refine u_rows_are fx5.rr fx5.kk hp hs (by omega) gy (fun _ _ => rfl) (fun _ _ => rfl) fun X6 s6 => ?_
      walk_at "rd"
      exact ⟨rfl, s4.trans (s5.trans s6)⟩
    rintro σ' X4 ⟨rfl, s4⟩
    have w4 := w3.sm s4
    have fx4 := fx3.sm s4
    have ea : Str.ofString "a" = S [97] := by decide +kernel
    have oka : Ok [97] := fun c hc => by rw [List.mem_singleton] at hc; omega
    rw [ea]
    obtain ⟨dx, ip⟩ := w4.ip
    walk_at "rd"
    refine u_store (tx := tx) none rfl w4.pk (fun x z => by cases z) u.gd u.new (by rw [u.perm.length_eq]; omega) ⟨by decide, oka⟩ fun o' k' X5 hst f5 hP5 => ?_
    have m5 : Kp [p, dl, ds] X4 X5 := Kp.frm f5 w4.pk (by simp) (by simp) (by simp)
    have fx5 := fx4.kp m5 (d4.sub s3d) (hav.imp (fun h z => h (s3d _ z)) id)
    walk_at "rd"
    rw [show co - 1 + 1 = co by omega, decide_eq_true rfl]
    walk_at "rd"
    obtain ⟨dxq, ipq⟩ := fx5.pq.ip
    walk_at "rd"
    refine ⟨q, el, es, b, co0, ys0, o0, k0, rfl, fx5.pq.r, hs, yl, fun r6 X6 s6 nr6 hR6 => ?_⟩
    have fx6 := fx5.sm s6
    have eL6 := fx6.ll
    walk_at "rd"
    exact u_rows_are hR6 fx6.kk hp hs (by omega) gy (fun _ _ => rfl) (fun _ _ => rfl) fun X7 s7 => h1 X7
/-! ### the row: where each def stands, its derivation -/
theorem sc_done : FnScope n_done a_done (defScope s_done) := ⟨rfl, rfl, rfl, by decide +kernel, rfl, by decide +kernel, by decide +kernel⟩
theorem sc_turned : FnScope n_turned a_turned (defScope s_turned) := ⟨rfl, rfl, rfl, by decide +kernel, rfl, by decide +kernel, by decide +kernel⟩
theorem sc_alike_ahead : FnScope n_alike_ahead a_alike_ahead (defScope s_alike_ahead) := ⟨rfl, rfl, rfl, by decide +kernel, rfl, by decide +kernel, by decide +kernel⟩
theorem sc_alike_behind : FnScope n_alike_behind a_alike_behind (defScope s_alike_behind) := ⟨rfl, rfl, rfl, by decide +kernel, rfl, by decide +kernel, by decide +kernel⟩
theorem sc_change_of : FnScope n_change_of a_change_of (defScope s_change_of) := ⟨rfl, rfl, rfl, by decide +kernel, rfl, by decide +kernel, by decide +kernel⟩
theorem sc_chain_of : FnScope n_chain_of a_chain_of (defScope s_chain_of) := ⟨rfl, rfl, rfl, by decide +kernel, rfl, by decide +kernel, by decide +kernel⟩
theorem sc_tree_of : FnScope n_tree_of a_tree_of (defScope s_tree_of) := ⟨rfl, rfl, rfl, by decide +kernel, rfl, by decide +kernel, by decide +kernel⟩
theorem sc_sides : FnScope n_sides a_sides (defScope s_sides) := ⟨rfl, rfl, rfl, by decide +kernel, rfl, by decide +kernel, by decide +kernel⟩
theorem sc_reach : FnScope n_reach a_reach (defScope s_reach) := ⟨rfl, rfl, rfl, by decide +kernel, rfl, by decide +kernel, by decide +kernel⟩
theorem sc_middle : FnScope n_middle a_middle (defScope s_middle) := ⟨rfl, rfl, rfl, by decide +kernel, rfl, by decide +kernel, by decide +kernel⟩
theorem sc_is_number : FnScope n_is_number a_is_number (defScope s_is_number) := ⟨rfl, rfl, rfl, by decide +kernel, rfl, by decide +kernel, by decide +kernel⟩
theorem sc_P_init : FnScope n_P_init a_P_init (defScope s_P_init) := ⟨rfl, rfl, rfl, by decide +kernel, rfl, by decide +kernel, by decide +kernel⟩
theorem sc_P_need : FnScope n_P_need a_P_need (defScope s_P_need) := ⟨rfl, rfl, rfl, by decide +kernel, rfl, by decide +kernel, by decide +kernel⟩
theorem sc_P_read : FnScope n_P_read a_P_read (defScope s_P_read) := ⟨rfl, rfl, rfl, by decide +kernel, rfl, by decide +kernel, by decide +kernel⟩
theorem sc_P_base : FnScope n_P_base a_P_base (defScope s_P_base) := ⟨rfl, rfl, rfl, by decide +kernel, rfl, by decide +kernel, by decide +kernel⟩
theorem sc_P_chain : FnScope n_P_chain a_P_chain (defScope s_P_chain) := ⟨rfl, rfl, rfl, by decide +kernel, rfl, by decide +kernel, by decide +kernel⟩
theorem sc_P_numbers : FnScope n_P_numbers a_P_numbers (defScope s_P_numbers) := ⟨rfl, rfl, rfl, by decide +kernel, rfl, by decide +kernel, by decide +kernel⟩
theorem sc_P_bases : FnScope n_P_bases a_P_bases (defScope s_P_bases) := ⟨rfl, rfl, rfl, by decide +kernel, rfl, by decide +kernel, by decide +kernel⟩
theorem sc_P_rows : FnScope n_P_rows a_P_rows (defScope s_P_rows) := ⟨rfl, rfl, rfl, by decide +kernel, rfl, by decide +kernel, by decide +kernel⟩
theorem sc_P_weight : FnScope n_P_weight a_P_weight (defScope s_P_weight) := ⟨rfl, rfl, rfl, by decide +kernel, rfl, by decide +kernel, by decide +kernel⟩
theorem sc_P_lay : FnScope n_P_lay a_P_lay (defScope s_P_lay) := ⟨rfl, rfl, rfl, by decide +kernel, rfl, by decide +kernel, by decide +kernel⟩
theorem sc_P_turn_to : FnScope n_P_turn_to a_P_turn_to (defScope s_P_turn_to) := ⟨rfl, rfl, rfl, by decide +kernel, rfl, by decide +kernel, by decide +kernel⟩
theorem sc_P_store : FnScope n_P_store a_P_store (defScope s_P_store) := ⟨rfl, rfl, rfl, by decide +kernel, rfl, by decide +kernel, by decide +kernel⟩
theorem sc_P_root : FnScope n_P_root a_P_root (defScope s_P_root) := ⟨rfl, rfl, rfl, by decide +kernel, rfl, by decide +kernel, by decide +kernel⟩
theorem sc_within : FnScope n_within a_within (defScope s_within) := ⟨rfl, rfl, rfl, by decide +kernel, rfl, by decide +kernel, by decide +kernel⟩
theorem sc_opened : FnScope n_opened a_opened (defScope s_opened) := ⟨rfl, rfl, rfl, by decide +kernel, rfl, by decide +kernel, by decide +kernel⟩
theorem sc_l_cell_at : FnScope n_l_cell_at a_l_cell_at (defScope s_l_cell_at) := ⟨rfl, rfl, rfl, by decide +kernel, rfl, by decide +kernel, by decide +kernel⟩
theorem sc_l_whole : FnScope n_l_whole a_l_whole (defScope s_l_whole) := ⟨rfl, rfl, rfl, by decide +kernel, rfl, by decide +kernel, by decide +kernel⟩
theorem sc_l_sign_by : FnScope n_l_sign_by a_l_sign_by (defScope s_l_sign_by) := ⟨rfl, rfl, rfl, by decide +kernel, rfl, by decide +kernel, by decide +kernel⟩
theorem sc_l_text_by : FnScope n_l_text_by a_l_text_by (defScope s_l_text_by) := ⟨rfl, rfl, rfl, by decide +kernel, rfl, by decide +kernel, by decide +kernel⟩
theorem sc_l_next_text : FnScope n_l_next_text a_l_next_text (defScope s_l_next_text) := ⟨rfl, rfl, rfl, by decide +kernel, rfl, by decide +kernel, by decide +kernel⟩
theorem sc_l_change_of : FnScope n_l_change_of a_l_change_of (defScope s_l_change_of) := ⟨rfl, rfl, rfl, by decide +kernel, rfl, by decide +kernel, by decide +kernel⟩
theorem sc_l_wide_change : FnScope n_l_wide_change a_l_wide_change (defScope s_l_wide_change) := ⟨rfl, rfl, rfl, by decide +kernel, rfl, by decide +kernel, by decide +kernel⟩
theorem sc_l_names : FnScope n_l_names a_l_names (defScope s_l_names) := ⟨rfl, rfl, rfl, by decide +kernel, rfl, by decide +kernel, by decide +kernel⟩
theorem sc_l_size : FnScope n_l_size a_l_size (defScope s_l_size) := ⟨rfl, rfl, rfl, by decide +kernel, rfl, by decide +kernel, by decide +kernel⟩
theorem sc_l_made : FnScope n_l_made a_l_made (defScope s_l_made) := ⟨rfl, rfl, rfl, by decide +kernel, rfl, by decide +kernel, by decide +kernel⟩
theorem sc_l_rows_of : FnScope n_l_rows_of a_l_rows_of (defScope s_l_rows_of) := ⟨rfl, rfl, rfl, by decide +kernel, rfl, by decide +kernel, by decide +kernel⟩
theorem sc_l_chain : FnScope n_l_chain a_l_chain (defScope s_l_chain) := ⟨rfl, rfl, rfl, by decide +kernel, rfl, by decide +kernel, by decide +kernel⟩
theorem sc_l_longest : FnScope n_l_longest a_l_longest (defScope s_l_longest) := ⟨rfl, rfl, rfl, by decide +kernel, rfl, by decide +kernel, by decide +kernel⟩
theorem sc_l_kinds : FnScope n_l_kinds a_l_kinds (defScope s_l_kinds) := ⟨rfl, rfl, rfl, by decide +kernel, rfl, by decide +kernel, by decide +kernel⟩
theorem sc_l_rows_are : FnScope n_l_rows_are a_l_rows_are (defScope s_l_rows_are) := ⟨rfl, rfl, rfl, by decide +kernel, rfl, by decide +kernel, by decide +kernel⟩
theorem sc_l_cells : FnScope n_l_cells a_l_cells (defScope s_l_cells) := ⟨rfl, rfl, rfl, by decide +kernel, rfl, by decide +kernel, by decide +kernel⟩
theorem sc_l_far : FnScope n_l_far a_l_far (defScope s_l_far) := ⟨rfl, rfl, rfl, by decide +kernel, rfl, by decide +kernel, by decide +kernel⟩
theorem sc_l_turned : FnScope n_l_turned a_l_turned (defScope s_l_turned) := ⟨rfl, rfl, rfl, by decide +kernel, rfl, by decide +kernel, by decide +kernel⟩
theorem sc_l_seen : FnScope n_l_seen a_l_seen (defScope s_l_seen) := ⟨rfl, rfl, rfl, by decide +kernel, rfl, by decide +kernel, by decide +kernel⟩
theorem sc_l_held_well : FnScope n_l_held_well a_l_held_well (defScope s_l_held_well) := ⟨rfl, rfl, rfl, by decide +kernel, rfl, by decide +kernel, by decide +kernel⟩
theorem sc_l_asked : FnScope n_l_asked a_l_asked (defScope s_l_asked) := ⟨rfl, rfl, rfl, by decide +kernel, rfl, by decide +kernel, by decide +kernel⟩
theorem sc_l_one_more : FnScope n_l_one_more a_l_one_more (defScope s_l_one_more) := ⟨rfl, rfl, rfl, by decide +kernel, rfl, by decide +kernel, by decide +kernel⟩
theorem sc_l_root_told : FnScope n_l_root_told a_l_root_told (defScope s_l_root_told) := ⟨rfl, rfl, rfl, by decide +kernel, rfl, by decide +kernel, by decide +kernel⟩
theorem sc_l_law : FnScope n_l_law a_l_law (defScope s_l_law) := ⟨rfl, rfl, rfl, by decide +kernel, rfl, by decide +kernel, by decide +kernel⟩
structure TF (A : Ad) (mg : Str → Option Value) : Prop where
  mgGREATEST : ∃ t, mg "GREATEST" = some (.int 1000 t)
  ValueError_ : mg "ValueError" = none
  bool_ : mg "bool" = none
  dict_ : mg "dict" = none
  int_ : mg "int" = none
  isinstance_ : mg "isinstance" = none
  len_ : mg "len" = none
  list_ : mg "list" = none
  max_ : mg "max" = none
  min_ : mg "min" = none
  range_ : mg "range" = none
  reversed_ : mg "reversed" = none
  sorted_ : mg "sorted" = none
  str_ : mg "str" = none
  tuple_ : mg "tuple" = none
  eBadBound : ExAt A.K mg "BadBound" A.cBadBound
  eBadRows : ExAt A.K mg "BadRows" A.cBadRows
  eNoFit : ExAt A.K mg "NoFit" A.cNoFit
  eNoVersion : ExAt A.K mg "NoVersion" A.cNoVersion
  ePackError : ExAt A.K mg "PackError" A.cPackError
  eTooFar : ExAt A.K mg "TooFar" A.cTooFar
  mgPack : mg "Pack" = some (.ref A.cPack)
  cl : Cls A.K A.cPack
  mkPack : Mk A.K A.cPack (He.ma A.K A.cPack "__init__")
section
variable {P : Program} {w : World} {A : Ad} {mg : Str → Option Value} {base : Heap}
theorem d_done (T : TF A mg)  {f : Addr} {fd : FuncData} (F : FunD A.K "done" "done" (defArgs s_done) (defBody s_done) (defScope s_done) [] [] f fd) : FnOk P w A.K mg base (L2.CX P w) 1 f fd a_done (sp_done A) := by
  refine F.ok (k := 0) sc_done (fun vs H Q E h => ?_) (fun cdv A2 outer s H vs Q E hr h => ⟨t_done A E, ?_, p_done A  h⟩)
  · unfold sp_done at h
    (repeat (obtain ⟨_, h⟩ := h))
    all_goals (subst_vars; rfl)
  · exact pss_cons (ps_set (i := 2) sc_done.nd rfl (Or.inl rfl) (pe_ix ix_seq (pv 1) (pe_int) (fun _ _ => rfl))) (pss_cons (ps_set (i := 3) sc_done.nd rfl (Or.inl rfl) (pe_op op_add3 (pv 2) (pe_callB call_lenG (by rfl) T.len_ (by decide +kernel) (pa_cons (pe_ix ix_seq (pv 1) (pe_int) (fun _ _ => rfl)) (pa_nil))))) (pss_cons (ps_if (PW.pt (pw_or (pt_cmpR op_lt (pv 2) (pe_int) (nomark _)) (pw_or (pt_cmpR op_gt (pv 3) (pe_callB call_lenG (by rfl) T.len_ (by decide +kernel) (pa_cons (pv 0) (pa_nil))) (nomark _)) (pw_or1 (pt_cmpR (op_neG hr.units) (pe_slice sl_2 (pv 0) (po_some (pv 2)) (po_some (pv 3))) (pe_ix ix_seq (pv 1) (pe_int) (fun _ _ => rfl)) (nomark _)))))) (pss_one (ps_raise rfl (takes_of rfl rfl rfl rfl) (pmk_own PySem.F.excBase_ValueError T.eNoFit.x T.eNoFit.mg T.eNoFit.k (raises_own T.eNoFit.b T.eNoFit.t) (by exact rfl)))) (pss_nil)) (pss_one (ps_ret (pe_op op_add3 (pe_op op_add3 (pe_slice sl_2 (pv 0) (po_none) (po_some (pv 2))) (pe_ix ix_seq (pv 1) (pe_int) (fun _ _ => rfl))) (pe_slice sl_2 (pv 0) (po_some (pv 3)) (po_none)))))))
theorem d_turned (T : TF A mg)  {f : Addr} {fd : FuncData} (F : FunD A.K "turned" "turned" (defArgs s_turned) (defBody s_turned) (defScope s_turned) [] [] f fd) : FnOk P w A.K mg base (L2.CX P w) 1 f fd a_turned (sp_turned A) := by
  refine F.ok (k := 0) sc_turned (fun vs H Q E h => ?_) (fun cdv A2 outer s H vs Q E hr h => ⟨t_turned A E, ?_, p_turned A  h⟩)
  · unfold sp_turned at h
    (repeat (obtain ⟨_, h⟩ := h))
    all_goals (subst_vars; rfl)
  · exact pss_one (ps_ret (pe_tup (pa_cons (pe_ix ix_seq (pv 0) (pe_int) (fun _ _ => rfl)) (pa_cons (pe_ix ix_seq (pv 0) (pe_int) (fun _ _ => rfl)) (pa_cons (pe_ix ix_seq (pv 0) (pe_int) (fun _ _ => rfl)) (pa_nil))))))
theorem d_alike_ahead (T : TF A mg)  {f : Addr} {fd : FuncData} (F : FunD A.K "alike_ahead" "alike_ahead" (defArgs s_alike_ahead) (defBody s_alike_ahead) (defScope s_alike_ahead) [] [] f fd) : FnOk P w A.K mg base (L2.CX P w) 1 f fd a_alike_ahead (sp_alike_ahead A) := by
  refine F.ok (k := 0) sc_alike_ahead (fun vs H Q E h => ?_) (fun cdv A2 outer s H vs Q E hr h => ⟨t_alike_ahead A E, ?_, p_alike_ahead A  h⟩)
  · unfold sp_alike_ahead at h
    (repeat (obtain ⟨_, h⟩ := h))
    all_goals (subst_vars; rfl)
  · exact pss_cons (ps_set (i := 2) sc_alike_ahead.nd rfl (Or.inl rfl) (pe_int)) (pss_cons (ps_while (passes_of rfl) (PW.pt (pw_and (pt_cmpR op_lt (pv 2) (pe_callB (call_min2 rfl) (by rfl) T.min_ (by decide +kernel) (pa_cons (pe_callB call_lenG (by rfl) T.len_ (by decide +kernel) (pa_cons (pv 0) (pa_nil))) (pa_cons (pe_callB call_lenG (by rfl) T.len_ (by decide +kernel) (pa_cons (pv 1) (pa_nil))) (pa_nil)))) (nomark _)) (pw_and1 (pt_cmpR (op_eqG hr.units) (pe_ix ix_seq (pv 0) (pv 2) (fun _ _ => rfl)) (pe_ix ix_seq (pv 1) (pv 2) (fun _ _ => rfl)) (nomark _))))) (pss_one (ps_set (i := 2) sc_alike_ahead.nd rfl (Or.inl rfl) (pe_op op_add3 (pv 2) (pe_int))))) (pss_one (ps_ret (pv 2))))
theorem d_alike_behind (T : TF A mg)  {f : Addr} {fd : FuncData} (F : FunD A.K "alike_behind" "alike_behind" (defArgs s_alike_behind) (defBody s_alike_behind) (defScope s_alike_behind) [] [] f fd) : FnOk P w A.K mg base (L2.CX P w) 1 f fd a_alike_behind (sp_alike_behind A) := by
  refine F.ok (k := 0) sc_alike_behind (fun vs H Q E h => ?_) (fun cdv A2 outer s H vs Q E hr h => ⟨t_alike_behind A E, ?_, p_alike_behind A  h⟩)
  · unfold sp_alike_behind at h
    (repeat (obtain ⟨_, h⟩ := h))
    all_goals (subst_vars; rfl)
  · exact pss_cons (ps_set (i := 3) sc_alike_behind.nd rfl (Or.inl rfl) (pe_int)) (pss_cons (ps_while (passes_of rfl) (PW.pt (pw_and (pt_cmpR op_lt (pv 3) (pv 2) (nomark _)) (pw_and1 (pt_cmpR (op_eqG hr.units) (pe_ix ix_seq (pv 0) (pe_op op_sub (pe_op op_sub (pe_callB call_lenG (by rfl) T.len_ (by decide +kernel) (pa_cons (pv 0) (pa_nil))) (pe_int)) (pv 3)) (fun _ _ => rfl)) (pe_ix ix_seq (pv 1) (pe_op op_sub (pe_op op_sub (pe_callB call_lenG (by rfl) T.len_ (by decide +kernel) (pa_cons (pv 1) (pa_nil))) (pe_int)) (pv 3)) (fun _ _ => rfl)) (nomark _))))) (pss_one (ps_set (i := 3) sc_alike_behind.nd rfl (Or.inl rfl) (pe_op op_add3 (pv 3) (pe_int))))) (pss_one (ps_ret (pv 3))))
theorem d_change_of (T : TF A mg)  {f : Addr} {fd : FuncData} (F : FunD A.K "change_of" "change_of" (defArgs s_change_of) (defBody s_change_of) (defScope s_change_of) [] [] f fd) {f_alike_ahead : Addr} {fd_alike_ahead : FuncData} (G_alike_ahead : FnAt P w A.K mg base "alike_ahead" 1 a_alike_ahead (sp_alike_ahead A) f_alike_ahead fd_alike_ahead) {f_alike_behind : Addr} {fd_alike_behind : FuncData} (G_alike_behind : FnAt P w A.K mg base "alike_behind" 1 a_alike_behind (sp_alike_behind A) f_alike_behind fd_alike_behind) : FnOk P w A.K mg base (L2.CX P w) 2 f fd a_change_of (sp_change_of A) := by
  refine F.ok (k := 1) sc_change_of (fun vs H Q E h => ?_) (fun cdv A2 outer s H vs Q E hr h => ⟨t_change_of A E, ?_, p_change_of A  h⟩)
  · unfold sp_change_of at h
    (repeat (obtain ⟨_, h⟩ := h))
    all_goals (subst_vars; rfl)
  · have hr_1 := hr.mono (show 1 ≤ 1 by decide)
    exact pss_cons (ps_set (i := 2) sc_change_of.nd rfl (Or.inl rfl) (pe_call G_alike_ahead.ok hr_1 (by rfl) G_alike_ahead.mg G_alike_ahead.kp G_alike_ahead.b .nil (passL) (pa_cons (pv 0) (pa_cons (pv 1) (pa_nil))))) (pss_cons (ps_set (i := 3) sc_change_of.nd rfl (Or.inl rfl) (pe_call G_alike_behind.ok hr_1 (by rfl) G_alike_behind.mg G_alike_behind.kp G_alike_behind.b .nil (passL) (pa_cons (pv 0) (pa_cons (pv 1) (pa_cons (pe_op op_sub (pe_callB (call_min2 rfl) (by rfl) T.min_ (by decide +kernel) (pa_cons (pe_callB call_lenG (by rfl) T.len_ (by decide +kernel) (pa_cons (pv 0) (pa_nil))) (pa_cons (pe_callB call_lenG (by rfl) T.len_ (by decide +kernel) (pa_cons (pv 1) (pa_nil))) (pa_nil)))) (pv 2)) (pa_nil)))))) (pss_one (ps_ret (pe_tup (pa_cons (pv 2) (pa_cons (pe_slice sl_2 (pv 0) (po_some (pv 2)) (po_some (pe_op op_sub (pe_callB call_lenG (by rfl) T.len_ (by decide +kernel) (pa_cons (pv 0) (pa_nil))) (pv 3)))) (pa_cons (pe_slice sl_2 (pv 1) (po_some (pv 2)) (po_some (pe_op op_sub (pe_callB call_lenG (by rfl) T.len_ (by decide +kernel) (pa_cons (pv 1) (pa_nil))) (pv 3)))) (pa_nil))))))))
theorem d_chain_of (T : TF A mg)  {f : Addr} {fd : FuncData} (F : FunD A.K "chain_of" "chain_of" (defArgs s_chain_of) (defBody s_chain_of) (defScope s_chain_of) [] [] f fd) : FnOk P w A.K mg base (L2.CX P w) 1 f fd a_chain_of (sp_chain_of A) := by
  refine F.ok (k := 0) sc_chain_of (fun vs H Q E h => ?_) (fun cdv A2 outer s H vs Q E hr h => ⟨t_chain_of A E, ?_, p_chain_of A  h⟩)
  · unfold sp_chain_of at h
    (repeat (obtain ⟨_, h⟩ := h))
    all_goals (subst_vars; rfl)
  · exact pss_cons (ps_set (i := 2) sc_chain_of.nd rfl (Or.inl rfl) (pe_lst (pa_cons (pv 1) (pa_nil)))) (pss_cons (ps_while (passes_of rfl) (pt_cmp (pc_notN (pe_dget (hu_of hr) (pv 0) (pe_ix ix_seq (pv 2) (pe_un un_neg (pe_int)) (fun _ _ => rfl)) (fun _ _ => rfl)))) (pss_one (ps_expr (pe_bm PySem.F.plainAttrs_list PySem.F.slot_list_append PySem.F.type_list_append mt_append (pv 2) (pa_cons (pe_dget (hu_of hr) (pv 0) (pe_ix ix_seq (pv 2) (pe_un un_neg (pe_int)) (fun _ _ => rfl)) (fun _ _ => rfl)) (pa_nil)))))) (pss_one (ps_ret (pv 2))))
theorem d_tree_of (T : TF A mg)  {f : Addr} {fd : FuncData} (F : FunD A.K "tree_of" "tree_of" (defArgs s_tree_of) (defBody s_tree_of) (defScope s_tree_of) [] [] f fd) {f_chain_of : Addr} {fd_chain_of : FuncData} (G_chain_of : FnAt P w A.K mg base "chain_of" 1 a_chain_of (sp_chain_of A) f_chain_of fd_chain_of) : FnOk P w A.K mg base (L2.CX P w) 2 f fd a_tree_of (sp_tree_of A) := by
  refine F.ok (k := 1) sc_tree_of (fun vs H Q E h => ?_) (fun cdv A2 outer s H vs Q E hr h => ⟨t_tree_of A E, ?_, p_tree_of A  h⟩)
  · unfold sp_tree_of at h
    (repeat (obtain ⟨_, h⟩ := h))
    all_goals (subst_vars; rfl)
  · have hr_1 := hr.mono (show 1 ≤ 1 by decide)
    exact pss_cons (ps_set (i := 2) sc_tree_of.nd rfl (Or.inr rfl) (pe_ix ix_seq (pe_call G_chain_of.ok hr_1 (by rfl) G_chain_of.mg G_chain_of.kp G_chain_of.b .nil (passL) (pa_cons (pv 0) (pa_cons (pv 1) (pa_nil)))) (pe_un un_neg (pe_int)) (fun _ _ => rfl))) (pss_one (ps_ret (pe_lock (pe_lc (own := [("one", 3)]) (g := gName 3) (tt := tTest (tOp (rEqG A.K) (tOp (rIx A.K) (tCall (sp_chain_of A) [] E0 (tCons (tVar 0) (tCons (tVar 3) (tNil)))) (tUn rNeg (tC (.int 1)))) (tVar 2))) rfl sc_tree_of.nd (pi_keys (pv 0)) (blkOk_by (own := [("one", 3)]) (N := n_tree_of) (sc := defScope s_tree_of) (by decide +kernel)) (fun _ _ _ _ _ => pg_name (i := 3) sc_tree_of.nd rfl (Or.inl rfl)) (fun _ _ _ _ _ => pts_one (pt_cmpR (op_eqG hr.units) (pe_ix ix_seq (pe_call G_chain_of.ok hr_1 (by rfl) G_chain_of.mg G_chain_of.kp G_chain_of.b .nil (passL) (pa_cons (pv 0) (pa_cons (pv 3) (pa_nil)))) (pe_un un_neg (pe_int)) (fun _ _ => rfl)) (pv 2) (nomark _))) (fun _ _ _ _ _ => pv 3)))))
theorem d_sides (T : TF A mg)  {f : Addr} {fd : FuncData} (F : FunD A.K "sides" "sides" (defArgs s_sides) (defBody s_sides) (defScope s_sides) [] [] f fd) : FnOk P w A.K mg base (L2.CX P w) 1 f fd a_sides (sp_sides A) := by
  refine F.ok (k := 0) sc_sides (fun vs H Q E h => ?_) (fun cdv A2 outer s H vs Q E hr h => ⟨t_sides A E, ?_, p_sides A  h⟩)
  · unfold sp_sides at h
    (repeat (obtain ⟨_, h⟩ := h))
    all_goals (subst_vars; rfl)
  · exact pss_cons (ps_set (i := 1) sc_sides.nd rfl (Or.inl rfl) (pe_dnewK)) (pss_cons (ps_lock (ps_for (passes_of rfl) rfl (pi_keys (pv 0)) (pg_name (i := 2) sc_sides.nd rfl (Or.inl rfl)) (pss_one (ps_dput (hu_of hr) (pv 1) (pv 2) (pe_lst (pa_nil)) rfl)))) (pss_cons (ps_lock (ps_for (passes_of rfl) rfl (pi_keys (pv 0)) (pg_name (i := 2) sc_sides.nd rfl (Or.inl rfl)) (pss_one (ps_if (pt_cmp (pc_notN (pe_dget (hu_of hr) (pv 0) (pv 2) (fun _ _ => rfl)))) (pss_cons (ps_expr (pe_bm PySem.F.plainAttrs_list PySem.F.slot_list_append PySem.F.type_list_append mt_append (pe_dget (hu_of hr) (pv 1) (pv 2) (fun _ _ => rfl)) (pa_cons (pe_dget (hu_of hr) (pv 0) (pv 2) (fun _ _ => rfl)) (pa_nil)))) (pss_one (ps_expr (pe_bm PySem.F.plainAttrs_list PySem.F.slot_list_append PySem.F.type_list_append mt_append (pe_dget (hu_of hr) (pv 1) (pe_dget (hu_of hr) (pv 0) (pv 2) (fun _ _ => rfl)) (fun _ _ => rfl)) (pa_cons (pv 2) (pa_nil)))))) (pss_nil))))) (pss_one (ps_ret (pv 1)))))
theorem d_reach (T : TF A mg)  {f : Addr} {fd : FuncData} (F : FunD A.K "reach" "reach" (defArgs s_reach) (defBody s_reach) (defScope s_reach) [] [] f fd) {f_sides : Addr} {fd_sides : FuncData} (G_sides : FnAt P w A.K mg base "sides" 1 a_sides (sp_sides A) f_sides fd_sides) : FnOk P w A.K mg base (L2.CX P w) 2 f fd a_reach (sp_reach A) := by
  refine F.ok (k := 1) sc_reach (fun vs H Q E h => ?_) (fun cdv A2 outer s H vs Q E hr h => ⟨t_reach A E, ?_, p_reach A  h⟩)
  · unfold sp_reach at h
    (repeat (obtain ⟨_, h⟩ := h))
    all_goals (subst_vars; rfl)
  · have hr_1 := hr.mono (show 1 ≤ 1 by decide)
    exact pss_cons (ps_set (i := 2) sc_reach.nd rfl (Or.inl rfl) (pe_call G_sides.ok hr_1 (by rfl) G_sides.mg G_sides.kp G_sides.b .nil (passL) (pa_cons (pv 0) (pa_nil)))) (pss_cons (ps_set (i := 3) sc_reach.nd rfl (Or.inl rfl) (pe_disp (pps_cons (pv 1) (pe_bl) (pps_nil)) (by rfl) (by rfl) (fun z => by cases z) (by decide))) (pss_cons (ps_set (i := 4) sc_reach.nd rfl (Or.inl rfl) (pe_lst (pa_cons (pv 1) (pa_nil)))) (pss_cons (ps_set (i := 5) sc_reach.nd rfl (Or.inl rfl) (pe_un un_neg (pe_int))) (pss_cons (ps_while (passes_of rfl) (pt_cmpR (op_neG hr.units) (pv 4) (pe_lst (pa_nil)) (nomark _)) (pss_cons (ps_set (i := 5) sc_reach.nd rfl (Or.inl rfl) (pe_op op_add3 (pv 5) (pe_int))) (pss_cons (ps_set (i := 6) sc_reach.nd rfl (Or.inl rfl) (pe_lst (pa_nil))) (pss_cons (ps_for (passes_of rfl) rfl (pi_list (pv 4)) (pg_name (i := 7) sc_reach.nd rfl (Or.inl rfl)) (pss_one (ps_for (passes_of rfl) rfl (pi_list (pe_dget (hu_of hr) (pv 2) (pv 7) (fun _ _ => rfl))) (pg_name (i := 8) sc_reach.nd rfl (Or.inl rfl)) (pss_one (ps_if (pt_cmp (pc_dnotin (hu_of hr) (pv 8) (pv 3))) (pss_cons (ps_dput (hu_of hr) (pv 3) (pv 8) (pe_bl) rfl) (pss_one (ps_expr (pe_bm PySem.F.plainAttrs_list PySem.F.slot_list_append PySem.F.type_list_append mt_append (pv 6) (pa_cons (pv 8) (pa_nil)))))) (pss_nil)))))) (pss_one (ps_set (i := 4) sc_reach.nd rfl (Or.inl rfl) (pv 6))))))) (pss_one (ps_ret (pv 5)))))))
theorem d_middle (T : TF A mg)  {f : Addr} {fd : FuncData} (F : FunD A.K "middle" "middle" (defArgs s_middle) (defBody s_middle) (defScope s_middle) [] [] f fd) {f_reach : Addr} {fd_reach : FuncData} (G_reach : FnAt P w A.K mg base "reach" 2 a_reach (sp_reach A) f_reach fd_reach) {f_tree_of : Addr} {fd_tree_of : FuncData} (G_tree_of : FnAt P w A.K mg base "tree_of" 2 a_tree_of (sp_tree_of A) f_tree_of fd_tree_of) : FnOk P w A.K mg base (L2.CX P w) 3 f fd a_middle (sp_middle A) := by
  refine F.ok (k := 2) sc_middle (fun vs H Q E h => ?_) (fun cdv A2 outer s H vs Q E hr h => ⟨t_middle A E, ?_, p_middle A  h⟩)
  · unfold sp_middle at h
    (repeat (obtain ⟨_, h⟩ := h))
    all_goals (subst_vars; rfl)
  · have hr_2 := hr.mono (show 2 ≤ 2 by decide)
    exact pss_cons (ps_set (i := 2) sc_middle.nd rfl (Or.inl rfl) (pv 1)) (pss_cons (ps_set (i := 3) sc_middle.nd rfl (Or.inl rfl) (pe_call G_reach.ok hr_2 (by rfl) G_reach.mg G_reach.kp G_reach.b .nil (passL) (pa_cons (pv 0) (pa_cons (pv 1) (pa_nil))))) (pss_cons (ps_for (passes_of rfl) rfl (pi_list (pe_call G_tree_of.ok hr_2 (by rfl) G_tree_of.mg G_tree_of.kp G_tree_of.b .nil (passL) (pa_cons (pv 0) (pa_cons (pv 1) (pa_nil))))) (pg_name (i := 4) sc_middle.nd rfl (Or.inl rfl)) (pss_cons (ps_set (i := 5) sc_middle.nd rfl (Or.inl rfl) (pe_call G_reach.ok hr_2 (by rfl) G_reach.mg G_reach.kp G_reach.b .nil (passL) (pa_cons (pv 0) (pa_cons (pv 4) (pa_nil))))) (pss_one (ps_if (PW.pt (pw_or (pt_cmpR op_lt (pv 5) (pv 3) (nomark _)) (pw_or1 (PW.pt (pw_and (pt_cmpR (op_eqG hr.units) (pv 5) (pv 3) (nomark _)) (pw_and1 (pt_cmpR op_gt (pv 4) (pv 2) (nomark _)))))))) (pss_cons (ps_set (i := 2) sc_middle.nd rfl (Or.inl rfl) (pv 4)) (pss_one (ps_set (i := 3) sc_middle.nd rfl (Or.inl rfl) (pv 5)))) (pss_nil))))) (pss_one (ps_ret (pv 2)))))
theorem d_is_number (T : TF A mg)  {f : Addr} {fd : FuncData} (F : FunD A.K "is_number" "is_number" (defArgs s_is_number) (defBody s_is_number) (defScope s_is_number) [] [] f fd) : FnOk P w A.K mg base (L2.CX P w) 1 f fd a_is_number (sp_is_number A) := by
  refine F.ok (k := 0) sc_is_number (fun vs H Q E h => ?_) (fun cdv A2 outer s H vs Q E hr h => ⟨t_is_number A E, ?_, p_is_number A  h⟩)
  · unfold sp_is_number at h
    (repeat (obtain ⟨_, h⟩ := h))
    all_goals (subst_vars; rfl)
  · exact pss_one (ps_ret (pe_and (pe_callB call_isi (by rfl) T.isinstance_ (by decide +kernel) (pa_cons (pv 0) (pa_cons (pe_bltn (by rfl) T.int_ (by decide +kernel) rfl) (pa_nil)))) (pe_one (pe_not (pe_callB call_isi (by rfl) T.isinstance_ (by decide +kernel) (pa_cons (pv 0) (pa_cons (pe_bltn (by rfl) T.bool_ (by decide +kernel) rfl) (pa_nil))))))))
theorem d_P_init (T : TF A mg) (pk : PkOk A) {f : Addr} {fd : FuncData} (F : FunD A.K "__init__" "Pack.__init__" (defArgs s_P_init) (defBody s_P_init) (defScope s_P_init) [] [] f fd) {f_is_number : Addr} {fd_is_number : FuncData} (G_is_number : FnAt P w A.K mg base "is_number" 1 a_is_number (sp_is_number A) f_is_number fd_is_number) : FnOk P w A.K mg base (L2.CX P w) 2 f fd a_P_init (sp_P_init A) := by
  refine F.ok (k := 1) sc_P_init (fun vs H Q E h => ?_) (fun cdv A2 outer s H vs Q E hr h => ⟨t_P_init A E, ?_, p_P_init A pk h⟩)
  · unfold sp_P_init at h
    (repeat (obtain ⟨_, h⟩ := h))
    all_goals (subst_vars; rfl)
  · have hr_1 := hr.mono (show 1 ≤ 1 by decide)
    obtain ⟨tG, hG⟩ := T.mgGREATEST
    exact pss_cons (ps_if (PW.pt (pw_or (pt_not (pt_val (pe_call G_is_number.ok hr_1 (by rfl) G_is_number.mg G_is_number.kp G_is_number.b .nil (passes_call (takes_of rfl rfl rfl rfl) (fun _ _ _ _ h => h)) (pa_cons (pv 1) (pa_nil))))) (pw_or (pt_cmpR op_lt (pv 1) (pe_int) (nomark _)) (pw_or1 (pt_cmpR op_gt (pv 1) (pe_glob rfl hG ⟨_, rfl⟩) (nomark _)))))) (pss_one (ps_raise rfl (takes_of rfl rfl rfl rfl) (pmk_own PySem.F.excBase_ValueError T.eBadBound.x T.eBadBound.mg T.eBadBound.k (raises_own T.eBadBound.b T.eBadBound.t) (by exact rfl)))) (pss_nil)) (pss_cons (ps_fld (pv 0) (pv 1) rfl) (pss_cons (ps_fld (pv 0) (pe_dnewK) rfl) (pss_cons (ps_fld (pv 0) (pe_dnewK) rfl) (pss_one (ps_fld (pv 0) (pe_int) rfl)))))
theorem d_P_need (T : TF A mg) (pk : PkOk A) {f : Addr} {fd : FuncData} (F : FunD A.K "need" "Pack.need" (defArgs s_P_need) (defBody s_P_need) (defScope s_P_need) [] [] f fd) {f_is_number : Addr} {fd_is_number : FuncData} (G_is_number : FnAt P w A.K mg base "is_number" 1 a_is_number (sp_is_number A) f_is_number fd_is_number) : FnOk P w A.K mg base (L2.CX P w) 2 f fd a_P_need (sp_P_need A) := by
  refine F.ok (k := 1) sc_P_need (fun vs H Q E h => ?_) (fun cdv A2 outer s H vs Q E hr h => ⟨t_P_need A E, ?_, p_P_need A pk h⟩)
  · unfold sp_P_need at h
    (repeat (obtain ⟨_, h⟩ := h))
    all_goals (subst_vars; rfl)
  · have hr_1 := hr.mono (show 1 ≤ 1 by decide)
    exact pss_one (ps_if (PW.pt (pw_or (pt_not (pt_val (pe_call G_is_number.ok hr_1 (by rfl) G_is_number.mg G_is_number.kp G_is_number.b .nil (passes_call (takes_of rfl rfl rfl rfl) (fun _ _ _ _ h => h)) (pa_cons (pv 1) (pa_nil))))) (pw_or1 (pt_cmp (pc_dnotin (hu_of hr) (pv 1) (pe_fld (pv 0) rfl)))))) (pss_one (ps_raise rfl (takes_of rfl rfl rfl rfl) (pmk_own PySem.F.excBase_ValueError T.eNoVersion.x T.eNoVersion.mg T.eNoVersion.k (raises_own T.eNoVersion.b T.eNoVersion.t) (by exact rfl)))) (pss_nil))
theorem d_P_read (T : TF A mg) (pk : PkOk A) {f : Addr} {fd : FuncData} (F : FunD A.K "read" "Pack.read" (defArgs s_P_read) (defBody s_P_read) (defScope s_P_read) [] [] f fd) {f_P_need : Addr} {fd_P_need : FuncData} (G_P_need : MeAt P w A.K mg base A.cPack "need" 2 a_P_need (sp_P_need A) f_P_need fd_P_need) {f_chain_of : Addr} {fd_chain_of : FuncData} (G_chain_of : FnAt P w A.K mg base "chain_of" 1 a_chain_of (sp_chain_of A) f_chain_of fd_chain_of) {f_done : Addr} {fd_done : FuncData} (G_done : FnAt P w A.K mg base "done" 1 a_done (sp_done A) f_done fd_done) : FnOk P w A.K mg base (L2.CX P w) 3 f fd a_P_read (sp_P_read A) := by
  refine F.ok (k := 2) sc_P_read (fun vs H Q E h => ?_) (fun cdv A2 outer s H vs Q E hr h => ⟨t_P_read A E, ?_, p_P_read A pk h⟩)
  · unfold sp_P_read at h
    (repeat (obtain ⟨_, h⟩ := h))
    all_goals (subst_vars; rfl)
  · have hr_1 := hr.mono (show 1 ≤ 2 by decide)
    have hr_2 := hr.mono (show 2 ≤ 2 by decide)
    exact pss_cons (ps_expr (pe_meth (pv 0) T.cl G_P_need.mt G_P_need.ok hr_2 G_P_need.b .nil (passes_call (takes_of rfl rfl rfl rfl) (fun _ _ _ _ h => h)) (pa_cons (pv 1) (pa_nil)))) (pss_cons (ps_set (i := 2) sc_P_read.nd rfl (Or.inl rfl) (pe_call G_chain_of.ok hr_1 (by rfl) G_chain_of.mg G_chain_of.kp G_chain_of.b .nil (passes_call (takes_of rfl rfl rfl rfl) (fun _ _ _ _ h => h)) (pa_cons (pe_fld (pv 0) rfl) (pa_cons (pv 1) (pa_nil))))) (pss_cons (ps_set (i := 3) sc_P_read.nd rfl (Or.inl rfl) (pe_dget (hu_of hr) (pe_fld (pv 0) rfl) (pe_ix ix_seq (pv 2) (pe_un un_neg (pe_int)) (fun _ _ => rfl)) (fun _ _ => rfl))) (pss_cons (ps_for (passes_of rfl) rfl (pi_reversed (by rfl) T.reversed_ (pa_cons (pe_slice sl_2 (pv 2) (po_none) (po_some (pe_un un_neg (pe_int)))) (pa_nil))) (pg_name (i := 4) sc_P_read.nd rfl (Or.inl rfl)) (pss_one (ps_set (i := 3) sc_P_read.nd rfl (Or.inl rfl) (pe_call G_done.ok hr_1 (by rfl) G_done.mg G_done.kp G_done.b .nil (passes_call (takes_of rfl rfl rfl rfl) (fun _ _ _ _ h => h)) (pa_cons (pv 3) (pa_cons (pe_dget (hu_of hr) (pe_fld (pv 0) rfl) (pv 4) (fun _ _ => rfl)) (pa_nil))))))) (pss_one (ps_ret (pv 3))))))
theorem d_P_base (T : TF A mg) (pk : PkOk A) {f : Addr} {fd : FuncData} (F : FunD A.K "base" "Pack.base" (defArgs s_P_base) (defBody s_P_base) (defScope s_P_base) [] [] f fd) {f_P_need : Addr} {fd_P_need : FuncData} (G_P_need : MeAt P w A.K mg base A.cPack "need" 2 a_P_need (sp_P_need A) f_P_need fd_P_need) : FnOk P w A.K mg base (L2.CX P w) 3 f fd a_P_base (sp_P_base A) := by
  refine F.ok (k := 2) sc_P_base (fun vs H Q E h => ?_) (fun cdv A2 outer s H vs Q E hr h => ⟨t_P_base A E, ?_, p_P_base A pk h⟩)
  · unfold sp_P_base at h
    (repeat (obtain ⟨_, h⟩ := h))
    all_goals (subst_vars; rfl)
  · have hr_2 := hr.mono (show 2 ≤ 2 by decide)
    exact pss_cons (ps_expr (pe_meth (pv 0) T.cl G_P_need.mt G_P_need.ok hr_2 G_P_need.b .nil (passes_call (takes_of rfl rfl rfl rfl) (fun _ _ _ _ h => h)) (pa_cons (pv 1) (pa_nil)))) (pss_one (ps_ret (pe_dget (hu_of hr) (pe_fld (pv 0) rfl) (pv 1) (fun _ _ => rfl))))
theorem d_P_chain (T : TF A mg) (pk : PkOk A) {f : Addr} {fd : FuncData} (F : FunD A.K "chain" "Pack.chain" (defArgs s_P_chain) (defBody s_P_chain) (defScope s_P_chain) [] [] f fd) {f_P_need : Addr} {fd_P_need : FuncData} (G_P_need : MeAt P w A.K mg base A.cPack "need" 2 a_P_need (sp_P_need A) f_P_need fd_P_need) {f_chain_of : Addr} {fd_chain_of : FuncData} (G_chain_of : FnAt P w A.K mg base "chain_of" 1 a_chain_of (sp_chain_of A) f_chain_of fd_chain_of) : FnOk P w A.K mg base (L2.CX P w) 3 f fd a_P_chain (sp_P_chain A) := by
  refine F.ok (k := 2) sc_P_chain (fun vs H Q E h => ?_) (fun cdv A2 outer s H vs Q E hr h => ⟨t_P_chain A E, ?_, p_P_chain A pk h⟩)
  · unfold sp_P_chain at h
    (repeat (obtain ⟨_, h⟩ := h))
    all_goals (subst_vars; rfl)
  · have hr_1 := hr.mono (show 1 ≤ 2 by decide)
    have hr_2 := hr.mono (show 2 ≤ 2 by decide)
    exact pss_cons (ps_expr (pe_meth (pv 0) T.cl G_P_need.mt G_P_need.ok hr_2 G_P_need.b .nil (passes_call (takes_of rfl rfl rfl rfl) (fun _ _ _ _ h => h)) (pa_cons (pv 1) (pa_nil)))) (pss_one (ps_ret (pe_call G_chain_of.ok hr_1 (by rfl) G_chain_of.mg G_chain_of.kp G_chain_of.b .nil (passes_call (takes_of rfl rfl rfl rfl) (fun _ _ _ _ h => h)) (pa_cons (pe_fld (pv 0) rfl) (pa_cons (pv 1) (pa_nil))))))
theorem d_P_numbers (T : TF A mg) (pk : PkOk A) {f : Addr} {fd : FuncData} (F : FunD A.K "numbers" "Pack.numbers" (defArgs s_P_numbers) (defBody s_P_numbers) (defScope s_P_numbers) [] [] f fd) : FnOk P w A.K mg base (L2.CX P w) 1 f fd a_P_numbers (sp_P_numbers A) := by
  refine F.ok (k := 0) sc_P_numbers (fun vs H Q E h => ?_) (fun cdv A2 outer s H vs Q E hr h => ⟨t_P_numbers A E, ?_, p_P_numbers A pk h⟩)
  · unfold sp_P_numbers at h
    (repeat (obtain ⟨_, h⟩ := h))
    all_goals (subst_vars; rfl)
  · exact pss_one (ps_ret (pe_callB (call_sortedDI rfl) (by rfl) T.sorted_ (by decide +kernel) (pa_cons (pe_fld (pv 0) rfl) (pa_nil))))
theorem d_P_bases (T : TF A mg) (pk : PkOk A) {f : Addr} {fd : FuncData} (F : FunD A.K "bases" "Pack.bases" (defArgs s_P_bases) (defBody s_P_bases) (defScope s_P_bases) [] [] f fd) : FnOk P w A.K mg base (L2.CX P w) 1 f fd a_P_bases (sp_P_bases A) := by
  refine F.ok (k := 0) sc_P_bases (fun vs H Q E h => ?_) (fun cdv A2 outer s H vs Q E hr h => ⟨t_P_bases A E, ?_, p_P_bases A pk h⟩)
  · unfold sp_P_bases at h
    (repeat (obtain ⟨_, h⟩ := h))
    all_goals (subst_vars; rfl)
  · exact pss_one (ps_ret (pe_callTy call_dictD (by rfl) T.dict_ (by decide +kernel) (pa_cons (pe_fld (pv 0) rfl) (pa_nil))))
theorem d_P_rows (T : TF A mg) (pk : PkOk A) {f : Addr} {fd : FuncData} (F : FunD A.K "rows" "Pack.rows" (defArgs s_P_rows) (defBody s_P_rows) (defScope s_P_rows) [] [] f fd) {f_P_numbers : Addr} {fd_P_numbers : FuncData} (G_P_numbers : MeAt P w A.K mg base A.cPack "numbers" 1 a_P_numbers (sp_P_numbers A) f_P_numbers fd_P_numbers) : FnOk P w A.K mg base (L2.CX P w) 2 f fd a_P_rows (sp_P_rows A) := by
  refine F.ok (k := 1) sc_P_rows (fun vs H Q E h => ?_) (fun cdv A2 outer s H vs Q E hr h => ⟨t_P_rows A E, ?_, p_P_rows A pk h⟩)
  · unfold sp_P_rows at h
    (repeat (obtain ⟨_, h⟩ := h))
    all_goals (subst_vars; rfl)
  · have hr_1 := hr.mono (show 1 ≤ 1 by decide)
    exact pss_one (ps_ret (pe_lc (own := [("one", 1)]) (g := gName 1) (tt := tYes) rfl sc_P_rows.nd (pi_list (pe_meth0 (pv 0) T.cl G_P_numbers.mt G_P_numbers.ok hr_1 G_P_numbers.b .nil (passL))) (blkOk_by (own := [("one", 1)]) (N := n_P_rows) (sc := defScope s_P_rows) (by decide +kernel)) (fun _ _ _ _ _ => pg_name (i := 1) sc_P_rows.nd rfl (Or.inl rfl)) (fun _ _ _ _ _ => pts_nil) (fun _ _ _ _ _ => pe_tup (pa_cons (pv 1) (pa_cons (pe_dget (hu_of hr) (pe_fld (pv 0) rfl) (pv 1) (fun _ _ => rfl)) (pa_cons (pe_dget (hu_of hr) (pe_fld (pv 0) rfl) (pv 1) (fun _ _ => rfl)) (pa_nil)))))))
theorem d_P_weight (T : TF A mg) (pk : PkOk A) {f : Addr} {fd : FuncData} (F : FunD A.K "weight" "Pack.weight" (defArgs s_P_weight) (defBody s_P_weight) (defScope s_P_weight) [] [] f fd) : FnOk P w A.K mg base (L2.CX P w) 1 f fd a_P_weight (sp_P_weight A) := by
  refine F.ok (k := 0) sc_P_weight (fun vs H Q E h => ?_) (fun cdv A2 outer s H vs Q E hr h => ⟨t_P_weight A E, ?_, p_P_weight A pk h⟩)
  · unfold sp_P_weight at h
    (repeat (obtain ⟨_, h⟩ := h))
    all_goals (subst_vars; rfl)
  · exact pss_cons (ps_set (i := 1) sc_P_weight.nd rfl (Or.inl rfl) (pe_int)) (pss_cons (ps_lock (ps_for (passes_of rfl) rfl (pi_keys (pe_fld (pv 0) rfl)) (pg_name (i := 2) sc_P_weight.nd rfl (Or.inl rfl)) (pss_one (ps_if (pt_cmp (pc_isN (pe_dget (hu_of hr) (pe_fld (pv 0) rfl) (pv 2) (fun _ _ => rfl)))) (pss_one (ps_set (i := 1) sc_P_weight.nd rfl (Or.inl rfl) (pe_op op_add3 (pv 1) (pe_callB call_lenG (by rfl) T.len_ (by decide +kernel) (pa_cons (pe_dget (hu_of hr) (pe_fld (pv 0) rfl) (pv 2) (fun _ _ => rfl)) (pa_nil)))))) (pss_one (ps_set (i := 1) sc_P_weight.nd rfl (Or.inl rfl) (pe_op op_add3 (pe_op op_add3 (pv 1) (pe_callB call_lenG (by rfl) T.len_ (by decide +kernel) (pa_cons (pe_ix ix_seq (pe_dget (hu_of hr) (pe_fld (pv 0) rfl) (pv 2) (fun _ _ => rfl)) (pe_int) (fun _ _ => rfl)) (pa_nil)))) (pe_callB call_lenG (by rfl) T.len_ (by decide +kernel) (pa_cons (pe_ix ix_seq (pe_dget (hu_of hr) (pe_fld (pv 0) rfl) (pv 2) (fun _ _ => rfl)) (pe_int) (fun _ _ => rfl)) (pa_nil)))))))))) (pss_one (ps_ret (pv 1))))
theorem d_P_lay (T : TF A mg) (pk : PkOk A) {f : Addr} {fd : FuncData} (F : FunD A.K "lay" "Pack.lay" (defArgs s_P_lay) (defBody s_P_lay) (defScope s_P_lay) [] [] f fd) {f_change_of : Addr} {fd_change_of : FuncData} (G_change_of : FnAt P w A.K mg base "change_of" 2 a_change_of (sp_change_of A) f_change_of fd_change_of) {f_P_read : Addr} {fd_P_read : FuncData} (G_P_read : MeAt P w A.K mg base A.cPack "read" 3 a_P_read (sp_P_read A) f_P_read fd_P_read) : FnOk P w A.K mg base (L2.CX P w) 4 f fd a_P_lay (sp_P_lay A) := by
  refine F.ok (k := 3) sc_P_lay (fun vs H Q E h => ?_) (fun cdv A2 outer s H vs Q E hr h => ⟨t_P_lay A E, ?_, p_P_lay A pk h⟩)
  · unfold sp_P_lay at h
    (repeat (obtain ⟨_, h⟩ := h))
    all_goals (subst_vars; rfl)
  · have hr_2 := hr.mono (show 2 ≤ 3 by decide)
    have hr_3 := hr.mono (show 3 ≤ 3 by decide)
    exact pss_cut (ps_if (pt_cmp (pc_isN (pv 2))) (pss_one (ps_dput (hu_of hr) (pe_fld (pv 0) rfl) (pv 1) (pv 3) rfl)) (pss_one (ps_dput (hu_of hr) (pe_fld (pv 0) rfl) (pv 1) (pe_call G_change_of.ok hr_2 (by rfl) G_change_of.mg G_change_of.kp G_change_of.b .nil (passL) (pa_cons (pe_meth (pv 0) T.cl G_P_read.mt G_P_read.ok hr_3 G_P_read.b .nil (passL) (pa_cons (pv 2) (pa_nil))) (pa_cons (pv 3) (pa_nil)))) rfl))) (pss_one (ps_dput (hu_of hr) (pe_fld (pv 0) rfl) (pv 1) (pv 2) rfl))
theorem d_P_turn_to (T : TF A mg) (pk : PkOk A) {f : Addr} {fd : FuncData} (F : FunD A.K "turn_to" "Pack.turn_to" (defArgs s_P_turn_to) (defBody s_P_turn_to) (defScope s_P_turn_to) [] [] f fd) {f_P_read : Addr} {fd_P_read : FuncData} (G_P_read : MeAt P w A.K mg base A.cPack "read" 3 a_P_read (sp_P_read A) f_P_read fd_P_read) {f_chain_of : Addr} {fd_chain_of : FuncData} (G_chain_of : FnAt P w A.K mg base "chain_of" 1 a_chain_of (sp_chain_of A) f_chain_of fd_chain_of) {f_P_lay : Addr} {fd_P_lay : FuncData} (G_P_lay : MeAt P w A.K mg base A.cPack "lay" 4 a_P_lay (sp_P_lay A) f_P_lay fd_P_lay) {f_turned : Addr} {fd_turned : FuncData} (G_turned : FnAt P w A.K mg base "turned" 1 a_turned (sp_turned A) f_turned fd_turned) : FnOk P w A.K mg base (L2.CX P w) 5 f fd a_P_turn_to (sp_P_turn_to A) := by
  refine F.ok (k := 4) sc_P_turn_to (fun vs H Q E h => ?_) (fun cdv A2 outer s H vs Q E hr h => ⟨t_P_turn_to A E, ?_, p_P_turn_to A pk h⟩)
  · unfold sp_P_turn_to at h
    (repeat (obtain ⟨_, h⟩ := h))
    all_goals (subst_vars; rfl)
  · have hr_1 := hr.mono (show 1 ≤ 4 by decide)
    have hr_3 := hr.mono (show 3 ≤ 4 by decide)
    have hr_4 := hr.mono (show 4 ≤ 4 by decide)
    exact pss_cons (ps_set (i := 2) sc_P_turn_to.nd rfl (Or.inl rfl) (pe_meth (pv 0) T.cl G_P_read.mt G_P_read.ok hr_3 G_P_read.b .nil (passL) (pa_cons (pv 1) (pa_nil)))) (pss_cons (ps_set (i := 3) sc_P_turn_to.nd rfl (Or.inl rfl) (pe_call G_chain_of.ok hr_1 (by rfl) G_chain_of.mg G_chain_of.kp G_chain_of.b .nil (passL) (pa_cons (pe_fld (pv 0) rfl) (pa_cons (pv 1) (pa_nil))))) (pss_cons (ps_for (passes_of rfl) rfl (pi_range3 rfl T.range_ (pa_cons (pe_op op_sub (pe_callB call_lenG (by rfl) T.len_ (by decide +kernel) (pa_cons (pv 3) (pa_nil))) (pe_int)) (pa_cons (pe_int) (pa_cons (pe_un un_neg (pe_int)) (pa_nil))))) (pg_name (i := 4) sc_P_turn_to.nd rfl (Or.inl rfl)) (pss_cons (ps_dput (hu_of hr) (pe_fld (pv 0) rfl) (pe_ix ix_seq (pv 3) (pv 4) (fun _ _ => rfl)) (pe_call G_turned.ok hr_1 (by rfl) G_turned.mg G_turned.kp G_turned.b .nil (passL) (pa_cons (pe_dget (hu_of hr) (pe_fld (pv 0) rfl) (pe_ix ix_seq (pv 3) (pe_op op_sub (pv 4) (pe_int)) (fun _ _ => rfl)) (fun _ _ => rfl)) (pa_nil))) rfl) (pss_one (ps_dput (hu_of hr) (pe_fld (pv 0) rfl) (pe_ix ix_seq (pv 3) (pv 4) (fun _ _ => rfl)) (pe_ix ix_seq (pv 3) (pe_op op_sub (pv 4) (pe_int)) (fun _ _ => rfl)) rfl)))) (pss_one (ps_expr (pe_meth (pv 0) T.cl G_P_lay.mt G_P_lay.ok hr_4 G_P_lay.b .nil (passL) (pa_cons (pv 1) (pa_cons (pe_non) (pa_cons (pv 2) (pa_nil)))))))))
theorem d_P_store (T : TF A mg) (pk : PkOk A) {f : Addr} {fd : FuncData} (F : FunD A.K "store" "Pack.store" (defArgs s_P_store) (defBody s_P_store) (defScope s_P_store) [] [] f fd) {f_P_lay : Addr} {fd_P_lay : FuncData} (G_P_lay : MeAt P w A.K mg base A.cPack "lay" 4 a_P_lay (sp_P_lay A) f_P_lay fd_P_lay) {f_P_need : Addr} {fd_P_need : FuncData} (G_P_need : MeAt P w A.K mg base A.cPack "need" 2 a_P_need (sp_P_need A) f_P_need fd_P_need) {f_middle : Addr} {fd_middle : FuncData} (G_middle : FnAt P w A.K mg base "middle" 3 a_middle (sp_middle A) f_middle fd_middle) {f_reach : Addr} {fd_reach : FuncData} (G_reach : FnAt P w A.K mg base "reach" 2 a_reach (sp_reach A) f_reach fd_reach) {f_P_turn_to : Addr} {fd_P_turn_to : FuncData} (G_P_turn_to : MeAt P w A.K mg base A.cPack "turn_to" 5 a_P_turn_to (sp_P_turn_to A) f_P_turn_to fd_P_turn_to) {f_chain_of : Addr} {fd_chain_of : FuncData} (G_chain_of : FnAt P w A.K mg base "chain_of" 1 a_chain_of (sp_chain_of A) f_chain_of fd_chain_of) : FnOk P w A.K mg base (L2.CX P w) 6 f fd a_P_store (sp_P_store A) := by
  refine F.ok (k := 5) sc_P_store (fun vs H Q E h => ?_) (fun cdv A2 outer s H vs Q E hr h => ⟨t_P_store A E, ?_, p_P_store A pk h⟩)
  · unfold sp_P_store at h
    (repeat (obtain ⟨_, h⟩ := h))
    all_goals (subst_vars; rfl)
  · have hr_1 := hr.mono (show 1 ≤ 5 by decide)
    have hr_2 := hr.mono (show 2 ≤ 5 by decide)
    have hr_3 := hr.mono (show 3 ≤ 5 by decide)
    have hr_4 := hr.mono (show 4 ≤ 5 by decide)
    have hr_5 := hr.mono (show 5 ≤ 5 by decide)
    exact pss_cut (ps_if (pt_cmp (pc_notN (pv 2))) (pss_one (ps_expr (pe_meth (pv 0) T.cl G_P_need.mt G_P_need.ok hr_2 G_P_need.b .nil (passes_call (takes_of rfl rfl rfl rfl) (fun _ _ _ _ h => h)) (pa_cons (pv 2) (pa_nil))))) (pss_nil)) (pss_cons (ps_set (i := 3) sc_P_store.nd rfl (Or.inl rfl) (pe_fld (pv 0) rfl)) (pss_cons (ps_fld (pv 0) (pe_op op_add3 (pv 3) (pe_int)) rfl) (pss_cons (ps_expr (pe_meth (pv 0) T.cl G_P_lay.mt G_P_lay.ok hr_4 G_P_lay.b .nil (passes_call (takes_of rfl rfl rfl rfl) (fun _ _ _ _ h => h)) (pa_cons (pv 3) (pa_cons (pv 2) (pa_cons (pv 1) (pa_nil)))))) (pss_cut (ps_if (pt_cmpR op_gt (pe_op op_sub (pe_callB call_lenG (by rfl) T.len_ (by decide +kernel) (pa_cons (pe_call G_chain_of.ok hr_1 (by rfl) G_chain_of.mg G_chain_of.kp G_chain_of.b .nil (passes_call (takes_of rfl rfl rfl rfl) (fun _ _ _ _ h => h)) (pa_cons (pe_fld (pv 0) rfl) (pa_cons (pv 3) (pa_nil)))) (pa_nil))) (pe_int)) (pe_fld (pv 0) rfl) (nomark _)) (pss_cons (ps_set (i := 4) sc_P_store.nd rfl (Or.inl rfl) (pe_call G_middle.ok hr_3 (by rfl) G_middle.mg G_middle.kp G_middle.b .nil (passes_call (takes_of rfl rfl rfl rfl) (fun _ _ _ _ h => h)) (pa_cons (pe_fld (pv 0) rfl) (pa_cons (pv 3) (pa_nil))))) (pss_one (ps_if (pt_cmpR op_le (pe_call G_reach.ok hr_2 (by rfl) G_reach.mg G_reach.kp G_reach.b .nil (passes_call (takes_of rfl rfl rfl rfl) (fun _ _ _ _ h => h)) (pa_cons (pe_fld (pv 0) rfl) (pa_cons (pv 4) (pa_nil)))) (pe_fld (pv 0) rfl) (nomark _)) (pss_one (ps_expr (pe_meth (pv 0) T.cl G_P_turn_to.mt G_P_turn_to.ok hr_5 G_P_turn_to.b .nil (passes_call (takes_of rfl rfl rfl rfl) (fun _ _ _ _ h => h)) (pa_cons (pv 4) (pa_nil))))) (pss_one (ps_expr (pe_meth (pv 0) T.cl G_P_lay.mt G_P_lay.ok hr_4 G_P_lay.b .nil (passes_call (takes_of rfl rfl rfl rfl) (fun _ _ _ _ h => h)) (pa_cons (pv 3) (pa_cons (pe_non) (pa_cons (pv 1) (pa_nil)))))))))) (pss_nil)) (pss_one (ps_ret (pv 3)))))))
theorem d_P_root (T : TF A mg) (pk : PkOk A) {f : Addr} {fd : FuncData} (F : FunD A.K "root" "Pack.root" (defArgs s_P_root) (defBody s_P_root) (defScope s_P_root) [] [] f fd) {f_P_need : Addr} {fd_P_need : FuncData} (G_P_need : MeAt P w A.K mg base A.cPack "need" 2 a_P_need (sp_P_need A) f_P_need fd_P_need) {f_P_turn_to : Addr} {fd_P_turn_to : FuncData} (G_P_turn_to : MeAt P w A.K mg base A.cPack "turn_to" 5 a_P_turn_to (sp_P_turn_to A) f_P_turn_to fd_P_turn_to) {f_reach : Addr} {fd_reach : FuncData} (G_reach : FnAt P w A.K mg base "reach" 2 a_reach (sp_reach A) f_reach fd_reach) : FnOk P w A.K mg base (L2.CX P w) 6 f fd a_P_root (sp_P_root A) := by
  refine F.ok (k := 5) sc_P_root (fun vs H Q E h => ?_) (fun cdv A2 outer s H vs Q E hr h => ⟨t_P_root A E, ?_, p_P_root A pk h⟩)
  · unfold sp_P_root at h
    (repeat (obtain ⟨_, h⟩ := h))
    all_goals (subst_vars; rfl)
  · have hr_2 := hr.mono (show 2 ≤ 5 by decide)
    have hr_5 := hr.mono (show 5 ≤ 5 by decide)
    exact pss_cons (ps_expr (pe_meth (pv 0) T.cl G_P_need.mt G_P_need.ok hr_2 G_P_need.b .nil (passes_call (takes_of rfl rfl rfl rfl) (fun _ _ _ _ h => h)) (pa_cons (pv 1) (pa_nil)))) (pss_cons (ps_if (pt_cmpR op_gt (pe_call G_reach.ok hr_2 (by rfl) G_reach.mg G_reach.kp G_reach.b .nil (passes_call (takes_of rfl rfl rfl rfl) (fun _ _ _ _ h => h)) (pa_cons (pe_fld (pv 0) rfl) (pa_cons (pv 1) (pa_nil)))) (pe_fld (pv 0) rfl) (nomark _)) (pss_one (ps_raise rfl (takes_of rfl rfl rfl rfl) (pmk_own PySem.F.excBase_ValueError T.eTooFar.x T.eTooFar.mg T.eTooFar.k (raises_own T.eTooFar.b T.eTooFar.t) (by exact rfl)))) (pss_nil)) (pss_one (ps_expr (pe_meth (pv 0) T.cl G_P_turn_to.mt G_P_turn_to.ok hr_5 G_P_turn_to.b .nil (passes_call (takes_of rfl rfl rfl rfl) (fun _ _ _ _ h => h)) (pa_cons (pv 1) (pa_nil))))))
theorem d_within (T : TF A mg)  {f : Addr} {fd : FuncData} (F : FunD A.K "within" "within" (defArgs s_within) (defBody s_within) (defScope s_within) [] [] f fd) : FnOk P w A.K mg base (L2.CX P w) 1 f fd a_within (sp_within A) := by
  refine F.ok (k := 0) sc_within (fun vs H Q E h => ?_) (fun cdv A2 outer s H vs Q E hr h => ⟨t_within A E, ?_, p_within A  h⟩)
  · unfold sp_within at h
    (repeat (obtain ⟨_, h⟩ := h))
    all_goals (subst_vars; rfl)
  · exact pss_cons (ps_for (passes_of rfl) rfl (pi_range1 rfl T.range_ (pa_cons (pe_op op_add3 (pv 2) (pe_int)) (pa_nil))) (pg_name (i := 3) sc_within.nd rfl (Or.inl rfl)) (pss_cons (ps_if (pt_cmp (pc_isN (pe_dget (hu_of hr) (pv 0) (pv 1) (fun _ _ => rfl)))) (pss_one (ps_ret (pe_bl))) (pss_nil)) (pss_one (ps_set (i := 1) sc_within.nd rfl (Or.inl rfl) (pe_dget (hu_of hr) (pv 0) (pv 1) (fun _ _ => rfl)))))) (pss_one (ps_ret (pe_bl)))
theorem d_opened (T : TF A mg) (pk : PkOk A) {f : Addr} {fd : FuncData} (F : FunD A.K "opened" "opened" (defArgs s_opened) (defBody s_opened) (defScope s_opened) [] [] f fd) {fd_P_init : FuncData} (G_P_init : MeI P w A.K mg base A.cPack 2 a_P_init (sp_P_init A) (He.ma A.K A.cPack "__init__") fd_P_init) {f_within : Addr} {fd_within : FuncData} (G_within : FnAt P w A.K mg base "within" 1 a_within (sp_within A) f_within fd_within) {f_P_read : Addr} {fd_P_read : FuncData} (G_P_read : MeAt P w A.K mg base A.cPack "read" 3 a_P_read (sp_P_read A) f_P_read fd_P_read) : FnOk P w A.K mg base (L2.CX P w) 4 f fd a_opened (sp_opened A) := by
  refine F.ok (k := 3) sc_opened (fun vs H Q E h => ?_) (fun cdv A2 outer s H vs Q E hr h => ⟨t_opened A E, ?_, p_opened A pk h⟩)
  · unfold sp_opened at h
    (repeat (obtain ⟨_, h⟩ := h))
    all_goals (subst_vars; rfl)
  · have hr_1 := hr.mono (show 1 ≤ 3 by decide)
    have hr_3 := hr.mono (show 3 ≤ 3 by decide)
    exact pss_cons (ps_set (i := 2) sc_opened.nd rfl (Or.inl rfl) (pe_make T.mkPack G_P_init.ok hr_3 (by rfl) T.mgPack G_P_init.b .nil (passes_call (takes_of rfl rfl rfl rfl) (fun _ _ _ _ h => h)) (pa_cons (pv 1) (pa_nil)))) (pss_cons (ps_for (passes_of rfl) rfl (pi_list (pv 0)) (pg_tup rfl (pgs_cons (pg_name (i := 3) sc_opened.nd rfl (Or.inl rfl)) (pgs_cons (pg_name (i := 4) sc_opened.nd rfl (Or.inl rfl)) (pgs_cons (pg_name (i := 5) sc_opened.nd rfl (Or.inl rfl)) (pgs_nil))))) (pss_cons (ps_if (pt_cmpR op_lt (pv 3) (pe_fld (pv 2) rfl) (nomark _)) (pss_one (ps_raise rfl (takes_of rfl rfl rfl rfl) (pmk_own PySem.F.excBase_ValueError T.eBadRows.x T.eBadRows.mg T.eBadRows.k (raises_own T.eBadRows.b T.eBadRows.t) (by exact rfl)))) (pss_nil)) (pss_cons (ps_dput (hu_of hr) (pe_fld (pv 2) rfl) (pv 3) (pv 4) rfl) (pss_cons (ps_dput (hu_of hr) (pe_fld (pv 2) rfl) (pv 3) (pv 5) rfl) (pss_one (ps_fld (pv 2) (pe_op op_add3 (pv 3) (pe_int)) rfl)))))) (pss_cons (ps_lock (ps_for (passes_of rfl) rfl (pi_keys (pe_fld (pv 2) rfl)) (pg_name (i := 3) sc_opened.nd rfl (Or.inl rfl)) (pss_one (ps_if (PW.pt (pw_and (pt_cmp (pc_notN (pe_dget (hu_of hr) (pe_fld (pv 2) rfl) (pv 3) (fun _ _ => rfl)))) (pw_and1 (pt_cmp (pc_dnotin (hu_of hr) (pe_dget (hu_of hr) (pe_fld (pv 2) rfl) (pv 3) (fun _ _ => rfl)) (pe_fld (pv 2) rfl)))))) (pss_one (ps_raise rfl (takes_of rfl rfl rfl rfl) (pmk_own PySem.F.excBase_ValueError T.eBadRows.x T.eBadRows.mg T.eBadRows.k (raises_own T.eBadRows.b T.eBadRows.t) (by exact rfl)))) (pss_nil))))) (pss_cons (ps_lock (ps_for (passes_of rfl) rfl (pi_keys (pe_fld (pv 2) rfl)) (pg_name (i := 3) sc_opened.nd rfl (Or.inl rfl)) (pss_one (ps_if (pt_not (pt_val (pe_call G_within.ok hr_1 (by rfl) G_within.mg G_within.kp G_within.b .nil (passes_call (takes_of rfl rfl rfl rfl) (fun _ _ _ _ h => h)) (pa_cons (pe_fld (pv 2) rfl) (pa_cons (pv 3) (pa_cons (pv 1) (pa_nil))))))) (pss_one (ps_raise rfl (takes_of rfl rfl rfl rfl) (pmk_own PySem.F.excBase_ValueError T.eBadRows.x T.eBadRows.mg T.eBadRows.k (raises_own T.eBadRows.b T.eBadRows.t) (by exact rfl)))) (pss_nil))))) (pss_cons (ps_lock (ps_for (passes_of rfl) rfl (pi_keys (pe_fld (pv 2) rfl)) (pg_name (i := 3) sc_opened.nd rfl (Or.inl rfl)) (pss_one (ps_try_thru0 (pss_one (ps_expr (pe_meth (pv 2) T.cl G_P_read.mt G_P_read.ok hr_3 G_P_read.b .nil (passL) (pa_cons (pv 3) (pa_nil))))))))) (pss_one (ps_ret (pv 2)))))))
theorem d_l_cell_at (T : TF A mg)  {f : Addr} {fd : FuncData} (F : FunD A.K "_law_cell_at" "_law_cell_at" (defArgs s_l_cell_at) (defBody s_l_cell_at) (defScope s_l_cell_at) [] [] f fd) : FnOk P w A.K mg base (L2.CX P w) 1 f fd a_l_cell_at (sp_l_cell_at A) := by
  refine F.ok (k := 0) sc_l_cell_at (fun vs H Q E h => ?_) (fun cdv A2 outer s H vs Q E hr h => ⟨t_l_cell_at A E, ?_, p_l_cell_at A  h⟩)
  · unfold sp_l_cell_at at h
    (repeat (obtain ⟨_, h⟩ := h))
    all_goals (subst_vars; rfl)
  · exact pss_cons (ps_if (pt_cmpR op_lt (pv 1) (pe_callB call_lenG (by rfl) T.len_ (by decide +kernel) (pa_cons (pv 0) (pa_nil))) (nomark _)) (pss_one (ps_ret (pe_ix ix_seq (pv 0) (pv 1) (fun _ _ => rfl)))) (pss_nil)) (pss_one (ps_ret (pe_int)))
theorem d_l_whole (T : TF A mg)  {f : Addr} {fd : FuncData} (F : FunD A.K "_law_whole" "_law_whole" (defArgs s_l_whole) (defBody s_l_whole) (defScope s_l_whole) [] [] f fd) : FnOk P w A.K mg base (L2.CX P w) 1 f fd a_l_whole (sp_l_whole A) := by
  refine F.ok (k := 0) sc_l_whole (fun vs H Q E h => ?_) (fun cdv A2 outer s H vs Q E hr h => ⟨t_l_whole A E, ?_, p_l_whole A  h⟩)
  · unfold sp_l_whole at h
    (repeat (obtain ⟨_, h⟩ := h))
    all_goals (subst_vars; rfl)
  · exact pss_one (ps_ret (pe_and (pe_callB call_isi (by rfl) T.isinstance_ (by decide +kernel) (pa_cons (pv 0) (pa_cons (pe_bltn (by rfl) T.int_ (by decide +kernel) rfl) (pa_nil)))) (pe_one (pe_not (pe_callB call_isi (by rfl) T.isinstance_ (by decide +kernel) (pa_cons (pv 0) (pa_cons (pe_bltn (by rfl) T.bool_ (by decide +kernel) rfl) (pa_nil))))))))
theorem d_l_sign_by (T : TF A mg)  {f : Addr} {fd : FuncData} (F : FunD A.K "_law_sign_by" "_law_sign_by" (defArgs s_l_sign_by) (defBody s_l_sign_by) (defScope s_l_sign_by) [] [] f fd) : FnOk P w A.K mg base (L2.CX P w) 1 f fd a_l_sign_by (sp_l_sign_by A) := by
  refine F.ok (k := 0) sc_l_sign_by (fun vs H Q E h => ?_) (fun cdv A2 outer s H vs Q E hr h => ⟨t_l_sign_by A E, ?_, p_l_sign_by A  h⟩)
  · unfold sp_l_sign_by at h
    (repeat (obtain ⟨_, h⟩ := h))
    all_goals (subst_vars; rfl)
  · exact pss_cons (ps_set (i := 1) sc_l_sign_by.nd rfl (Or.inl rfl) (pe_str)) (pss_cons (ps_set (i := 1) sc_l_sign_by.nd rfl (Or.inl rfl) (pe_op op_add3 (pv 1) (pe_str))) (pss_one (ps_ret (pe_ix ix_seq (pv 1) (pe_op op_mod (pv 0) (pe_int)) (fun _ _ => rfl)))))
theorem d_l_text_by (T : TF A mg)  {f : Addr} {fd : FuncData} (F : FunD A.K "_law_text_by" "_law_text_by" (defArgs s_l_text_by) (defBody s_l_text_by) (defScope s_l_text_by) [] [] f fd) {f_l_sign_by : Addr} {fd_l_sign_by : FuncData} (G_l_sign_by : FnAt P w A.K mg base "_law_sign_by" 1 a_l_sign_by (sp_l_sign_by A) f_l_sign_by fd_l_sign_by) : FnOk P w A.K mg base (L2.CX P w) 2 f fd a_l_text_by (sp_l_text_by A) := by
  refine F.ok (k := 1) sc_l_text_by (fun vs H Q E h => ?_) (fun cdv A2 outer s H vs Q E hr h => ⟨t_l_text_by A E, ?_, p_l_text_by A  h⟩)
  · unfold sp_l_text_by at h
    (repeat (obtain ⟨_, h⟩ := h))
    all_goals (subst_vars; rfl)
  · have hr_1 := hr.mono (show 1 ≤ 1 by decide)
    exact pss_one (ps_ret (pe_bm PySem.F.plainAttrs_str PySem.F.slot_str_join PySem.F.type_str_join mt_join (pe_str) (pa_cons (pe_lc (own := [("_law_k", 2)]) (g := gName 2) (tt := tYes) rfl sc_l_text_by.nd (pi_range1 rfl T.range_ (pa_cons (pv 1) (pa_nil))) (blkOk_by (own := [("_law_k", 2)]) (N := n_l_text_by) (sc := defScope s_l_text_by) (by decide +kernel)) (fun _ _ _ _ _ => pg_name (i := 2) sc_l_text_by.nd rfl (Or.inl rfl)) (fun _ _ _ _ _ => pts_nil) (fun _ _ _ _ _ => pe_call G_l_sign_by.ok hr_1 (by rfl) G_l_sign_by.mg G_l_sign_by.kp G_l_sign_by.b .nil (passL) (pa_cons (pe_op op_add3 (pv 0) (pe_op op_mul (pe_int) (pe_op op_fdiv (pv 2) (pe_op op_add3 (pe_int) (pe_op op_mod (pv 0) (pe_int)))))) (pa_nil)))) (pa_nil))))
theorem d_l_next_text (T : TF A mg)  {f : Addr} {fd : FuncData} (F : FunD A.K "_law_next_text" "_law_next_text" (defArgs s_l_next_text) (defBody s_l_next_text) (defScope s_l_next_text) [] [] f fd) {f_l_text_by : Addr} {fd_l_text_by : FuncData} (G_l_text_by : FnAt P w A.K mg base "_law_text_by" 2 a_l_text_by (sp_l_text_by A) f_l_text_by fd_l_text_by) {f_l_sign_by : Addr} {fd_l_sign_by : FuncData} (G_l_sign_by : FnAt P w A.K mg base "_law_sign_by" 1 a_l_sign_by (sp_l_sign_by A) f_l_sign_by fd_l_sign_by) : FnOk P w A.K mg base (L2.CX P w) 3 f fd a_l_next_text (sp_l_next_text A) := by
  refine F.ok (k := 2) sc_l_next_text (fun vs H Q E h => ?_) (fun cdv A2 outer s H vs Q E hr h => ⟨t_l_next_text A E, ?_, p_l_next_text A  h⟩)
  · unfold sp_l_next_text at h
    (repeat (obtain ⟨_, h⟩ := h))
    all_goals (subst_vars; rfl)
  · have hr_1 := hr.mono (show 1 ≤ 2 by decide)
    have hr_2 := hr.mono (show 2 ≤ 2 by decide)
    exact pss_cons (ps_set (i := 2) sc_l_next_text.nd rfl (Or.inl rfl) (pe_op op_mod (pv 1) (pe_int))) (pss_cons (ps_set (i := 3) sc_l_next_text.nd rfl (Or.inl rfl) (pe_op op_mod (pe_op op_fdiv (pv 1) (pe_int)) (pe_op op_add3 (pe_callB call_lenG (by rfl) T.len_ (by decide +kernel) (pa_cons (pv 0) (pa_nil))) (pe_int)))) (pss_cons (ps_set (i := 4) sc_l_next_text.nd rfl (Or.inl rfl) (pe_op op_fdiv (pe_op op_fdiv (pv 1) (pe_int)) (pe_op op_add3 (pe_callB call_lenG (by rfl) T.len_ (by decide +kernel) (pa_cons (pv 0) (pa_nil))) (pe_int)))) (pss_cons (ps_if (pt_cmpR (op_eqG hr.units) (pv 2) (pe_int) (nomark _)) (pss_one (ps_ret (pv 0))) (pss_nil)) (pss_cons (ps_if (pt_cmpR (op_eqG hr.units) (pv 2) (pe_int) (nomark _)) (pss_one (ps_ret (pe_op op_add3 (pe_op op_add3 (pe_op op_add3 (pe_slice sl_2 (pv 0) (po_none) (po_some (pv 3))) (pe_call G_l_sign_by.ok hr_1 (by rfl) G_l_sign_by.mg G_l_sign_by.kp G_l_sign_by.b .nil (passL) (pa_cons (pv 4) (pa_nil)))) (pe_call G_l_sign_by.ok hr_1 (by rfl) G_l_sign_by.mg G_l_sign_by.kp G_l_sign_by.b .nil (passL) (pa_cons (pe_op op_fdiv (pv 4) (pe_int)) (pa_nil)))) (pe_slice sl_2 (pv 0) (po_some (pv 3)) (po_none))))) (pss_nil)) (pss_cons (ps_if (pt_cmpR (op_eqG hr.units) (pv 2) (pe_int) (nomark _)) (pss_one (ps_ret (pe_op op_add3 (pe_slice sl_2 (pv 0) (po_none) (po_some (pv 3))) (pe_slice sl_2 (pv 0) (po_some (pe_op op_add3 (pe_op op_add3 (pv 3) (pe_int)) (pe_op op_mod (pv 4) (pe_int)))) (po_none))))) (pss_nil)) (pss_cons (ps_if (pt_cmpR (op_eqG hr.units) (pv 2) (pe_int) (nomark _)) (pss_one (ps_ret (pe_op op_add3 (pe_op op_add3 (pe_slice sl_2 (pv 0) (po_none) (po_some (pv 3))) (pe_call G_l_sign_by.ok hr_1 (by rfl) G_l_sign_by.mg G_l_sign_by.kp G_l_sign_by.b .nil (passL) (pa_cons (pv 4) (pa_nil)))) (pe_slice sl_2 (pv 0) (po_some (pe_op op_add3 (pv 3) (pe_int))) (po_none))))) (pss_nil)) (pss_one (ps_ret (pe_call G_l_text_by.ok hr_2 (by rfl) G_l_text_by.mg G_l_text_by.kp G_l_text_by.b .nil (passL) (pa_cons (pv 4) (pa_cons (pe_op op_mod (pv 4) (pe_int)) (pa_nil))))))))))))
theorem d_l_change_of (T : TF A mg)  {f : Addr} {fd : FuncData} (F : FunD A.K "_law_change_of" "_law_change_of" (defArgs s_l_change_of) (defBody s_l_change_of) (defScope s_l_change_of) [] [] f fd) : FnOk P w A.K mg base (L2.CX P w) 1 f fd a_l_change_of (sp_l_change_of A) := by
  refine F.ok (k := 0) sc_l_change_of (fun vs H Q E h => ?_) (fun cdv A2 outer s H vs Q E hr h => ⟨t_l_change_of A E, ?_, p_l_change_of A  h⟩)
  · unfold sp_l_change_of at h
    (repeat (obtain ⟨_, h⟩ := h))
    all_goals (subst_vars; rfl)
  · exact pss_cons (ps_set (i := 2) sc_l_change_of.nd rfl (Or.inl rfl) (pe_int)) (pss_cons (ps_while (passes_of rfl) (PW.pt (pw_and (pt_cmpR op_lt (pv 2) (pe_callB (call_min2 rfl) (by rfl) T.min_ (by decide +kernel) (pa_cons (pe_callB call_lenG (by rfl) T.len_ (by decide +kernel) (pa_cons (pv 0) (pa_nil))) (pa_cons (pe_callB call_lenG (by rfl) T.len_ (by decide +kernel) (pa_cons (pv 1) (pa_nil))) (pa_nil)))) (nomark _)) (pw_and1 (pt_cmpR (op_eqG hr.units) (pe_ix ix_seq (pv 0) (pv 2) (fun _ _ => rfl)) (pe_ix ix_seq (pv 1) (pv 2) (fun _ _ => rfl)) (nomark _))))) (pss_one (ps_set (i := 2) sc_l_change_of.nd rfl (Or.inl rfl) (pe_op op_add3 (pv 2) (pe_int))))) (pss_cons (ps_set (i := 3) sc_l_change_of.nd rfl (Or.inl rfl) (pe_int)) (pss_cons (ps_while (passes_of rfl) (PW.pt (pw_and (pt_cmpR op_lt (pv 3) (pe_op op_sub (pe_callB (call_min2 rfl) (by rfl) T.min_ (by decide +kernel) (pa_cons (pe_callB call_lenG (by rfl) T.len_ (by decide +kernel) (pa_cons (pv 0) (pa_nil))) (pa_cons (pe_callB call_lenG (by rfl) T.len_ (by decide +kernel) (pa_cons (pv 1) (pa_nil))) (pa_nil)))) (pv 2)) (nomark _)) (pw_and1 (pt_cmpR (op_eqG hr.units) (pe_ix ix_seq (pv 0) (pe_op op_sub (pe_un un_neg (pe_int)) (pv 3)) (fun _ _ => rfl)) (pe_ix ix_seq (pv 1) (pe_op op_sub (pe_un un_neg (pe_int)) (pv 3)) (fun _ _ => rfl)) (nomark _))))) (pss_one (ps_set (i := 3) sc_l_change_of.nd rfl (Or.inl rfl) (pe_op op_add3 (pv 3) (pe_int))))) (pss_one (ps_ret (pe_tup (pa_cons (pv 2) (pa_cons (pe_slice sl_2 (pv 0) (po_some (pv 2)) (po_some (pe_op op_sub (pe_callB call_lenG (by rfl) T.len_ (by decide +kernel) (pa_cons (pv 0) (pa_nil))) (pv 3)))) (pa_cons (pe_slice sl_2 (pv 1) (po_some (pv 2)) (po_some (pe_op op_sub (pe_callB call_lenG (by rfl) T.len_ (by decide +kernel) (pa_cons (pv 1) (pa_nil))) (pv 3)))) (pa_nil))))))))))
theorem d_l_wide_change (T : TF A mg)  {f : Addr} {fd : FuncData} (F : FunD A.K "_law_wide_change" "_law_wide_change" (defArgs s_l_wide_change) (defBody s_l_wide_change) (defScope s_l_wide_change) [] [] f fd) {f_l_change_of : Addr} {fd_l_change_of : FuncData} (G_l_change_of : FnAt P w A.K mg base "_law_change_of" 1 a_l_change_of (sp_l_change_of A) f_l_change_of fd_l_change_of) : FnOk P w A.K mg base (L2.CX P w) 2 f fd a_l_wide_change (sp_l_wide_change A) := by
  refine F.ok (k := 1) sc_l_wide_change (fun vs H Q E h => ?_) (fun cdv A2 outer s H vs Q E hr h => ⟨t_l_wide_change A E, ?_, p_l_wide_change A  h⟩)
  · unfold sp_l_wide_change at h
    (repeat (obtain ⟨_, h⟩ := h))
    all_goals (subst_vars; rfl)
  · have hr_1 := hr.mono (show 1 ≤ 1 by decide)
    exact pss_cons (ps_set (i := 3) sc_l_wide_change.nd rfl (Or.inl rfl) (pe_call G_l_change_of.ok hr_1 (by rfl) G_l_change_of.mg G_l_change_of.kp G_l_change_of.b .nil (passL) (pa_cons (pv 0) (pa_cons (pv 1) (pa_nil))))) (pss_cons (ps_set (i := 4) sc_l_wide_change.nd rfl (Or.inl rfl) (pe_ix ix_seq (pv 3) (pe_int) (fun _ _ => rfl))) (pss_cut (ps_if (pt_cmpR (op_eqG hr.units) (pv 2) (pe_int) (nomark _)) (pss_one (ps_set (i := 4) sc_l_wide_change.nd rfl (Or.inl rfl) (pe_callB (call_max2 rfl) (by rfl) T.max_ (by decide +kernel) (pa_cons (pe_int) (pa_cons (pe_op op_sub (pv 4) (pe_int)) (pa_nil)))))) (pss_nil)) (pss_cons (ps_if (pt_cmpR (op_eqG hr.units) (pv 2) (pe_int) (nomark _)) (pss_one (ps_ret (pe_tup (pa_cons (pe_int) (pa_cons (pv 0) (pa_cons (pv 1) (pa_nil))))))) (pss_nil)) (pss_one (ps_ret (pe_tup (pa_cons (pv 4) (pa_cons (pe_op op_add3 (pe_slice sl_2 (pv 0) (po_some (pv 4)) (po_some (pe_ix ix_seq (pv 3) (pe_int) (fun _ _ => rfl)))) (pe_ix ix_seq (pv 3) (pe_int) (fun _ _ => rfl))) (pa_cons (pe_op op_add3 (pe_slice sl_2 (pv 0) (po_some (pv 4)) (po_some (pe_ix ix_seq (pv 3) (pe_int) (fun _ _ => rfl)))) (pe_ix ix_seq (pv 3) (pe_int) (fun _ _ => rfl))) (pa_nil))))))))))
theorem d_l_names (T : TF A mg)  {f : Addr} {fd : FuncData} (F : FunD A.K "_law_names" "_law_names" (defArgs s_l_names) (defBody s_l_names) (defScope s_l_names) [] [] f fd) : FnOk P w A.K mg base (L2.CX P w) 1 f fd a_l_names (sp_l_names A) := by
  refine F.ok (k := 0) sc_l_names (fun vs H Q E h => ?_) (fun cdv A2 outer s H vs Q E hr h => ⟨t_l_names A E, ?_, p_l_names A  h⟩)
  · unfold sp_l_names at h
    (repeat (obtain ⟨_, h⟩ := h))
    all_goals (subst_vars; rfl)
  · exact pss_cons (ps_set (i := 1) sc_l_names.nd rfl (Or.inl rfl) (pe_lst (pa_nil))) (pss_cons (ps_set (i := 2) sc_l_names.nd rfl (Or.inl rfl) (pe_un un_neg (pe_int))) (pss_cons (ps_for (passes_of rfl) rfl (pi_list (pv 0)) (pg_name (i := 3) sc_l_names.nd rfl (Or.inl rfl)) (pss_cons (ps_set (i := 2) sc_l_names.nd rfl (Or.inl rfl) (pe_op op_add3 (pe_op op_add3 (pv 2) (pe_int)) (pe_op op_mod (pe_op op_fdiv (pv 3) (pe_int)) (pe_int)))) (pss_cut (ps_if (pt_cmpR (op_eqG hr.units) (pe_op op_mod (pe_op op_fdiv (pv 3) (pe_int)) (pe_int)) (pe_int) (nomark _)) (pss_one (ps_set (i := 2) sc_l_names.nd rfl (Or.inl rfl) (pe_op op_add3 (pv 2) (pe_op op_pow (pe_int) (pe_int))))) (pss_nil)) (pss_one (ps_expr (pe_bm PySem.F.plainAttrs_list PySem.F.slot_list_append PySem.F.type_list_append mt_append (pv 1) (pa_cons (pv 2) (pa_nil)))))))) (pss_one (ps_ret (pv 1)))))
theorem d_l_size (T : TF A mg)  {f : Addr} {fd : FuncData} (F : FunD A.K "_law_size" "_law_size" (defArgs s_l_size) (defBody s_l_size) (defScope s_l_size) [] [] f fd) : FnOk P w A.K mg base (L2.CX P w) 1 f fd a_l_size (sp_l_size A) := by
  refine F.ok (k := 0) sc_l_size (fun vs H Q E h => ?_) (fun cdv A2 outer s H vs Q E hr h => ⟨t_l_size A E, ?_, p_l_size A  h⟩)
  · unfold sp_l_size at h
    (repeat (obtain ⟨_, h⟩ := h))
    all_goals (subst_vars; rfl)
  · exact pss_cons (ps_if (pt_cmpR (op_eqG hr.units) (pe_op op_mod (pe_op op_fdiv (pv 0) (pe_int)) (pe_int)) (pe_int) (nomark _)) (pss_one (ps_ret (pe_op op_mod (pe_op op_mul (pe_int) (pe_op op_fdiv (pv 0) (pe_int))) (pe_int)))) (pss_nil)) (pss_one (ps_ret (pe_op op_mod (pv 0) (pe_int))))
theorem d_l_made (T : TF A mg)  {f : Addr} {fd : FuncData} (F : FunD A.K "_law_made" "_law_made" (defArgs s_l_made) (defBody s_l_made) (defScope s_l_made) [] [] f fd) {f_l_names : Addr} {fd_l_names : FuncData} (G_l_names : FnAt P w A.K mg base "_law_names" 1 a_l_names (sp_l_names A) f_l_names fd_l_names) {f_l_text_by : Addr} {fd_l_text_by : FuncData} (G_l_text_by : FnAt P w A.K mg base "_law_text_by" 2 a_l_text_by (sp_l_text_by A) f_l_text_by fd_l_text_by) {f_l_next_text : Addr} {fd_l_next_text : FuncData} (G_l_next_text : FnAt P w A.K mg base "_law_next_text" 3 a_l_next_text (sp_l_next_text A) f_l_next_text fd_l_next_text) {f_l_size : Addr} {fd_l_size : FuncData} (G_l_size : FnAt P w A.K mg base "_law_size" 1 a_l_size (sp_l_size A) f_l_size fd_l_size) {f_l_wide_change : Addr} {fd_l_wide_change : FuncData} (G_l_wide_change : FnAt P w A.K mg base "_law_wide_change" 2 a_l_wide_change (sp_l_wide_change A) f_l_wide_change fd_l_wide_change) : FnOk P w A.K mg base (L2.CX P w) 4 f fd a_l_made (sp_l_made A) := by
  refine F.ok (k := 3) sc_l_made (fun vs H Q E h => ?_) (fun cdv A2 outer s H vs Q E hr h => ⟨t_l_made A E, ?_, p_l_made A  h⟩)
  · unfold sp_l_made at h
    (repeat (obtain ⟨_, h⟩ := h))
    all_goals (subst_vars; rfl)
  · have hr_1 := hr.mono (show 1 ≤ 3 by decide)
    have hr_2 := hr.mono (show 2 ≤ 3 by decide)
    have hr_3 := hr.mono (show 3 ≤ 3 by decide)
    exact pss_cons (ps_set (i := 2) sc_l_made.nd rfl (Or.inr rfl) (pe_op op_fdiv (pe_callB call_lenG (by rfl) T.len_ (by decide +kernel) (pa_cons (pv 0) (pa_nil))) (pe_int))) (pss_cons (ps_set (i := 3) sc_l_made.nd rfl (Or.inr rfl) (pe_call G_l_names.ok hr_1 (by rfl) G_l_names.mg G_l_names.kp G_l_names.b .nil (passL) (pa_cons (pe_slice sl_2 (pv 0) (po_some (pe_op op_mul (pe_int) (pv 2))) (po_none)) (pa_nil)))) (pss_cons (ps_setLc (i := 4) (own := [("_law_k", 5)]) (g := gName 5) (tt := tYes) rfl sc_l_made.nd rfl rfl (sw_true rfl rfl rfl (by decide +kernel)) (pi_range1 rfl T.range_ (pa_cons (pv 2) (pa_nil))) (blkOk_by (own := [("_law_k", 5)]) (N := n_l_made) (sc := defScope s_l_made) (by decide +kernel)) (fun _ _ _ _ _ => pg_name (i := 5) sc_l_made.nd rfl (Or.inl rfl)) (fun _ _ _ _ _ => pts_nil) (fun _ _ _ _ _ => pe_ix ix_seq (pv 3) (pe_op op_mod (pe_op op_add3 (pv 5) (pe_op op_fdiv (pv 1) (pe_int))) (pv 2)) (fun _ _ => rfl))) (pss_cut (ps_if (pt_cmpR (op_eqG hr.units) (pe_op op_mod (pv 1) (pe_int)) (pe_int) (nomark _)) (pss_one (ps_expr (pe_bm0 PySem.F.plainAttrs_list PySem.F.slot_list_reverse PySem.F.type_list_reverse mt_reverse (pv 4)))) (pss_nil)) (pss_cons (ps_set (i := 6) sc_l_made.nd rfl (Or.inl rfl) (pe_dnewK)) (pss_cons (ps_set (i := 7) sc_l_made.nd rfl (Or.inl rfl) (pe_dnewK)) (pss_cons (ps_for (passes_of rfl) rfl (pi_range1 rfl T.range_ (pa_cons (pv 2) (pa_nil))) (pg_name (i := 5) sc_l_made.nd rfl (Or.inl rfl)) (pss_cons (ps_set (i := 8) sc_l_made.nd rfl (Or.inl rfl) (pe_ix ix_seq (pv 0) (pv 5) (fun _ _ => rfl))) (pss_cons (ps_set (i := 9) sc_l_made.nd rfl (Or.inl rfl) (pe_ix ix_seq (pv 0) (pe_op op_add3 (pv 2) (pv 5)) (fun _ _ => rfl))) (pss_one (ps_if (PW.pt (pw_or (pt_cmpR (op_eqG hr.units) (pv 5) (pe_int) (nomark _)) (pw_or1 (pt_cmpR (op_eqG hr.units) (pe_op op_mod (pv 8) (pe_int)) (pe_int) (nomark _))))) (pss_cons (ps_dput (hu_of hr) (pv 7) (pe_ix ix_seq (pv 4) (pv 5) (fun _ _ => rfl)) (pe_call G_l_text_by.ok hr_2 (by rfl) G_l_text_by.mg G_l_text_by.kp G_l_text_by.b .nil (passL) (pa_cons (pe_op op_fdiv (pv 9) (pe_int)) (pa_cons (pe_call G_l_size.ok hr_1 (by rfl) G_l_size.mg G_l_size.kp G_l_size.b .nil (passL) (pa_cons (pv 9) (pa_nil))) (pa_nil)))) rfl) (pss_one (ps_dput (hu_of hr) (pv 6) (pe_ix ix_seq (pv 4) (pv 5) (fun _ _ => rfl)) (pe_tup (pa_cons (pe_non) (pa_cons (pe_dget (hu_of hr) (pv 7) (pe_ix ix_seq (pv 4) (pv 5) (fun _ _ => rfl)) (fun _ _ => rfl)) (pa_nil)))) rfl))) (pss_cons (ps_set (i := 10) sc_l_made.nd rfl (Or.inl rfl) (pe_ix ix_seq (pv 4) (pe_op op_sub (pv 5) (pe_int)) (fun _ _ => rfl))) (pss_cut (ps_if (pt_cmpR op_gt (pe_op op_mod (pv 8) (pe_int)) (pe_int) (nomark _)) (pss_one (ps_set (i := 10) sc_l_made.nd rfl (Or.inl rfl) (pe_ix ix_seq (pv 4) (pe_op op_mod (pe_op op_fdiv (pv 8) (pe_int)) (pv 5)) (fun _ _ => rfl)))) (pss_nil)) (pss_cons (ps_dput (hu_of hr) (pv 7) (pe_ix ix_seq (pv 4) (pv 5) (fun _ _ => rfl)) (pe_call G_l_next_text.ok hr_3 (by rfl) G_l_next_text.mg G_l_next_text.kp G_l_next_text.b .nil (passL) (pa_cons (pe_dget (hu_of hr) (pv 7) (pv 10) (fun _ _ => rfl)) (pa_cons (pv 9) (pa_nil)))) rfl) (pss_one (ps_dput (hu_of hr) (pv 6) (pe_ix ix_seq (pv 4) (pv 5) (fun _ _ => rfl)) (pe_tup (pa_cons (pv 10) (pa_cons (pe_call G_l_wide_change.ok hr_2 (by rfl) G_l_wide_change.mg G_l_wide_change.kp G_l_wide_change.b .nil (passL) (pa_cons (pe_dget (hu_of hr) (pv 7) (pv 10) (fun _ _ => rfl)) (pa_cons (pe_dget (hu_of hr) (pv 7) (pe_ix ix_seq (pv 4) (pv 5) (fun _ _ => rfl)) (fun _ _ => rfl)) (pa_cons (pe_op op_mod (pe_ix ix_seq (pv 0) (pe_op op_add3 (pe_op op_mul (pe_int) (pv 2)) (pv 5)) (fun _ _ => rfl)) (pe_int)) (pa_nil))))) (pa_nil)))) rfl)))))))))) (pss_one (ps_ret (pe_lst (pa_cons (pv 6) (pa_cons (pv 7) (pa_nil))))))))))))
theorem d_l_rows_of (T : TF A mg)  {f : Addr} {fd : FuncData} (F : FunD A.K "_law_rows_of" "_law_rows_of" (defArgs s_l_rows_of) (defBody s_l_rows_of) (defScope s_l_rows_of) [] [] f fd) : FnOk P w A.K mg base (L2.CX P w) 1 f fd a_l_rows_of (sp_l_rows_of A) := by
  refine F.ok (k := 0) sc_l_rows_of (fun vs H Q E h => ?_) (fun cdv A2 outer s H vs Q E hr h => ⟨t_l_rows_of A E, ?_, p_l_rows_of A  h⟩)
  · unfold sp_l_rows_of at h
    (repeat (obtain ⟨_, h⟩ := h))
    all_goals (subst_vars; rfl)
  · exact pss_one (ps_ret (pe_lc (own := [("_law_one", 1)]) (g := gName 1) (tt := tYes) rfl sc_l_rows_of.nd (pi_list (pe_callB (call_sortedDI rfl) (by rfl) T.sorted_ (by decide +kernel) (pa_cons (pv 0) (pa_nil)))) (blkOk_by (own := [("_law_one", 1)]) (N := n_l_rows_of) (sc := defScope s_l_rows_of) (by decide +kernel)) (fun _ _ _ _ _ => pg_name (i := 1) sc_l_rows_of.nd rfl (Or.inl rfl)) (fun _ _ _ _ _ => pts_nil) (fun _ _ _ _ _ => pe_tup (pa_cons (pv 1) (pa_cons (pe_ix ix_seq (pe_dget (hu_of hr) (pv 0) (pv 1) (fun _ _ => rfl)) (pe_int) (fun _ _ => rfl)) (pa_cons (pe_ix ix_seq (pe_dget (hu_of hr) (pv 0) (pv 1) (fun _ _ => rfl)) (pe_int) (fun _ _ => rfl)) (pa_nil)))))))
theorem d_l_chain (T : TF A mg)  {f : Addr} {fd : FuncData} (F : FunD A.K "_law_chain" "_law_chain" (defArgs s_l_chain) (defBody s_l_chain) (defScope s_l_chain) [] [] f fd) : FnOk P w A.K mg base (L2.CX P w) 1 f fd a_l_chain (sp_l_chain A) := by
  refine F.ok (k := 0) sc_l_chain (fun vs H Q E h => ?_) (fun cdv A2 outer s H vs Q E hr h => ⟨t_l_chain A E, ?_, p_l_chain A  h⟩)
  · unfold sp_l_chain at h
    (repeat (obtain ⟨_, h⟩ := h))
    all_goals (subst_vars; rfl)
  · exact pss_cons (ps_set (i := 2) sc_l_chain.nd rfl (Or.inl rfl) (pe_lst (pa_cons (pv 1) (pa_nil)))) (pss_cons (ps_while (passes_of rfl) (pt_cmp (pc_notN (pe_ix ix_seq (pe_dget (hu_of hr) (pv 0) (pe_ix ix_seq (pv 2) (pe_un un_neg (pe_int)) (fun _ _ => rfl)) (fun _ _ => rfl)) (pe_int) (fun _ _ => rfl)))) (pss_one (ps_expr (pe_bm PySem.F.plainAttrs_list PySem.F.slot_list_append PySem.F.type_list_append mt_append (pv 2) (pa_cons (pe_ix ix_seq (pe_dget (hu_of hr) (pv 0) (pe_ix ix_seq (pv 2) (pe_un un_neg (pe_int)) (fun _ _ => rfl)) (fun _ _ => rfl)) (pe_int) (fun _ _ => rfl)) (pa_nil)))))) (pss_one (ps_ret (pv 2))))
theorem d_l_longest (T : TF A mg)  {f : Addr} {fd : FuncData} (F : FunD A.K "_law_longest" "_law_longest" (defArgs s_l_longest) (defBody s_l_longest) (defScope s_l_longest) [] [] f fd) {f_l_chain : Addr} {fd_l_chain : FuncData} (G_l_chain : FnAt P w A.K mg base "_law_chain" 1 a_l_chain (sp_l_chain A) f_l_chain fd_l_chain) : FnOk P w A.K mg base (L2.CX P w) 2 f fd a_l_longest (sp_l_longest A) := by
  refine F.ok (k := 1) sc_l_longest (fun vs H Q E h => ?_) (fun cdv A2 outer s H vs Q E hr h => ⟨t_l_longest A E, ?_, p_l_longest A  h⟩)
  · unfold sp_l_longest at h
    (repeat (obtain ⟨_, h⟩ := h))
    all_goals (subst_vars; rfl)
  · have hr_1 := hr.mono (show 1 ≤ 1 by decide)
    exact pss_one (ps_ret (pe_callB (cr_max rfl) (by rfl) T.max_ (by decide +kernel) (pa_cons (pe_lock (pe_lc (own := [("_law_one", 1)]) (g := gName 1) (tt := tYes) rfl sc_l_longest.nd (pi_keys (pv 0)) (blkOk_by (own := [("_law_one", 1)]) (N := n_l_longest) (sc := defScope s_l_longest) (by decide +kernel)) (fun _ _ _ _ _ => pg_name (i := 1) sc_l_longest.nd rfl (Or.inl rfl)) (fun _ _ _ _ _ => pts_nil) (fun _ _ _ _ _ => pe_op op_sub (pe_callB call_lenG (by rfl) T.len_ (by decide +kernel) (pa_cons (pe_call G_l_chain.ok hr_1 (by rfl) G_l_chain.mg G_l_chain.kp G_l_chain.b .nil (passL) (pa_cons (pv 0) (pa_cons (pv 1) (pa_nil)))) (pa_nil))) (pe_int)))) (pa_nil))))
theorem d_l_kinds (T : TF A mg)  {f : Addr} {fd : FuncData} (F : FunD A.K "_law_kinds" "_law_kinds" (defArgs s_l_kinds) (defBody s_l_kinds) (defScope s_l_kinds) [] [] f fd) {f_l_whole : Addr} {fd_l_whole : FuncData} (G_l_whole : FnAt P w A.K mg base "_law_whole" 1 a_l_whole (sp_l_whole A) f_l_whole fd_l_whole) : FnOk P w A.K mg base (L2.CX P w) 2 f fd a_l_kinds (sp_l_kinds A) := by
  refine F.ok (k := 1) sc_l_kinds (fun vs H Q E h => ?_) (fun cdv A2 outer s H vs Q E hr h => ⟨t_l_kinds A E, ?_, p_l_kinds A  h⟩)
  · unfold sp_l_kinds at h
    (repeat (obtain ⟨_, h⟩ := h))
    all_goals (subst_vars; rfl)
  · have hr_1 := hr.mono (show 1 ≤ 1 by decide)
    exact pss_cons (ps_if (PW.pt (pw_or (pt_not (pt_val (pe_callB call_isi (by rfl) T.isinstance_ (by decide +kernel) (pa_cons (pv 0) (pa_cons (pe_bltn (by rfl) T.tuple_ (by decide +kernel) rfl) (pa_nil)))))) (pw_or (pt_cmpR (op_neG hr.units) (pe_callB call_lenG (by rfl) T.len_ (by decide +kernel) (pa_cons (pv 0) (pa_nil))) (pe_int) (nomark _)) (pw_or1 (pt_not (pt_val (pe_call G_l_whole.ok hr_1 (by rfl) G_l_whole.mg G_l_whole.kp G_l_whole.b .nil (passL) (pa_cons (pe_ix ix_seq (pv 0) (pe_int) (fun _ _ => rfl)) (pa_nil))))))))) (pss_one (ps_ret (pe_bl))) (pss_nil)) (pss_cons (ps_if (pt_cmp (pc_isN (pe_ix ix_seq (pv 0) (pe_int) (fun _ _ => rfl)))) (pss_one (ps_ret (pe_callB call_isi (by rfl) T.isinstance_ (by decide +kernel) (pa_cons (pe_ix ix_seq (pv 0) (pe_int) (fun _ _ => rfl)) (pa_cons (pe_bltn (by rfl) T.str_ (by decide +kernel) rfl) (pa_nil)))))) (pss_nil)) (pss_cons (ps_if (PW.pt (pw_or (pt_not (pt_val (pe_call G_l_whole.ok hr_1 (by rfl) G_l_whole.mg G_l_whole.kp G_l_whole.b .nil (passL) (pa_cons (pe_ix ix_seq (pv 0) (pe_int) (fun _ _ => rfl)) (pa_nil))))) (pw_or (pt_not (pt_val (pe_callB call_isi (by rfl) T.isinstance_ (by decide +kernel) (pa_cons (pe_ix ix_seq (pv 0) (pe_int) (fun _ _ => rfl)) (pa_cons (pe_bltn (by rfl) T.tuple_ (by decide +kernel) rfl) (pa_nil)))))) (pw_or1 (pt_cmpR (op_neG hr.units) (pe_callB call_lenG (by rfl) T.len_ (by decide +kernel) (pa_cons (pe_ix ix_seq (pv 0) (pe_int) (fun _ _ => rfl)) (pa_nil))) (pe_int) (nomark _)))))) (pss_one (ps_ret (pe_bl))) (pss_nil)) (pss_one (ps_ret (pe_and (pe_call G_l_whole.ok hr_1 (by rfl) G_l_whole.mg G_l_whole.kp G_l_whole.b .nil (passL) (pa_cons (pe_ix ix_seq (pe_ix ix_seq (pv 0) (pe_int) (fun _ _ => rfl)) (pe_int) (fun _ _ => rfl)) (pa_nil))) (pe_and (pe_callB call_isi (by rfl) T.isinstance_ (by decide +kernel) (pa_cons (pe_ix ix_seq (pe_ix ix_seq (pv 0) (pe_int) (fun _ _ => rfl)) (pe_int) (fun _ _ => rfl)) (pa_cons (pe_bltn (by rfl) T.str_ (by decide +kernel) rfl) (pa_nil)))) (pe_one (pe_callB call_isi (by rfl) T.isinstance_ (by decide +kernel) (pa_cons (pe_ix ix_seq (pe_ix ix_seq (pv 0) (pe_int) (fun _ _ => rfl)) (pe_int) (fun _ _ => rfl)) (pa_cons (pe_bltn (by rfl) T.str_ (by decide +kernel) rfl) (pa_nil)))))))))))
theorem d_l_rows_are (T : TF A mg)  {f : Addr} {fd : FuncData} (F : FunD A.K "_law_rows_are" "_law_rows_are" (defArgs s_l_rows_are) (defBody s_l_rows_are) (defScope s_l_rows_are) [] [] f fd) {f_l_rows_of : Addr} {fd_l_rows_of : FuncData} (G_l_rows_of : FnAt P w A.K mg base "_law_rows_of" 1 a_l_rows_of (sp_l_rows_of A) f_l_rows_of fd_l_rows_of) {f_l_kinds : Addr} {fd_l_kinds : FuncData} (G_l_kinds : FnAt P w A.K mg base "_law_kinds" 2 a_l_kinds (sp_l_kinds A) f_l_kinds fd_l_kinds) : FnOk P w A.K mg base (L2.CX P w) 3 f fd a_l_rows_are (sp_l_rows_are A) := by
  refine F.ok (k := 2) sc_l_rows_are (fun vs H Q E h => ?_) (fun cdv A2 outer s H vs Q E hr h => ⟨t_l_rows_are A E, ?_, p_l_rows_are A  h⟩)
  · unfold sp_l_rows_are at h
    (repeat (obtain ⟨_, h⟩ := h))
    all_goals (subst_vars; rfl)
  · have hr_1 := hr.mono (show 1 ≤ 2 by decide)
    have hr_2 := hr.mono (show 2 ≤ 2 by decide)
    exact pss_cons (ps_if (pt_not (pt_val (pe_callB call_isi (by rfl) T.isinstance_ (by decide +kernel) (pa_cons (pv 0) (pa_cons (pe_bltn (by rfl) T.list_ (by decide +kernel) rfl) (pa_nil)))))) (pss_one (ps_ret (pe_bl))) (pss_nil)) (pss_cons (ps_for (passes_of rfl) rfl (pi_list (pv 0)) (pg_name (i := 2) sc_l_rows_are.nd rfl (Or.inl rfl)) (pss_one (ps_if (pt_not (pt_val (pe_call G_l_kinds.ok hr_2 (by rfl) G_l_kinds.mg G_l_kinds.kp G_l_kinds.b .nil (passL) (pa_cons (pv 2) (pa_nil))))) (pss_one (ps_ret (pe_bl))) (pss_nil)))) (pss_one (ps_ret (pe_cmpR (op_eqG hr.units) (pv 0) (pe_call G_l_rows_of.ok hr_1 (by rfl) G_l_rows_of.mg G_l_rows_of.kp G_l_rows_of.b .nil (passL) (pa_cons (pv 1) (pa_nil))) (nomark _)))))
theorem d_l_cells (T : TF A mg)  {f : Addr} {fd : FuncData} (F : FunD A.K "_law_cells" "_law_cells" (defArgs s_l_cells) (defBody s_l_cells) (defScope s_l_cells) [] [] f fd) {f_l_cell_at : Addr} {fd_l_cell_at : FuncData} (G_l_cell_at : FnAt P w A.K mg base "_law_cell_at" 1 a_l_cell_at (sp_l_cell_at A) f_l_cell_at fd_l_cell_at) : FnOk P w A.K mg base (L2.CX P w) 2 f fd a_l_cells (sp_l_cells A) := by
  refine F.ok (k := 1) sc_l_cells (fun vs H Q E h => ?_) (fun cdv A2 outer s H vs Q E hr h => ⟨t_l_cells A E, ?_, p_l_cells A  h⟩)
  · unfold sp_l_cells at h
    (repeat (obtain ⟨_, h⟩ := h))
    all_goals (subst_vars; rfl)
  · have hr_1 := hr.mono (show 1 ≤ 1 by decide)
    exact pss_one (ps_ret (pe_lc (own := [("_law_k", 3)]) (g := gName 3) (tt := tYes) rfl sc_l_cells.nd (pi_range1 rfl T.range_ (pa_cons (pe_op op_mul (pe_int) (pv 2)) (pa_nil))) (blkOk_by (own := [("_law_k", 3)]) (N := n_l_cells) (sc := defScope s_l_cells) (by decide +kernel)) (fun _ _ _ _ _ => pg_name (i := 3) sc_l_cells.nd rfl (Or.inl rfl)) (fun _ _ _ _ _ => pts_nil) (fun _ _ _ _ _ => pe_call G_l_cell_at.ok hr_1 (by rfl) G_l_cell_at.mg G_l_cell_at.kp G_l_cell_at.b .nil (passL) (pa_cons (pv 0) (pa_cons (pe_op op_add3 (pv 1) (pv 3)) (pa_nil))))))
theorem d_l_far (T : TF A mg)  {f : Addr} {fd : FuncData} (F : FunD A.K "_law_far" "_law_far" (defArgs s_l_far) (defBody s_l_far) (defScope s_l_far) [] [] f fd) {f_l_chain : Addr} {fd_l_chain : FuncData} (G_l_chain : FnAt P w A.K mg base "_law_chain" 1 a_l_chain (sp_l_chain A) f_l_chain fd_l_chain) : FnOk P w A.K mg base (L2.CX P w) 2 f fd a_l_far (sp_l_far A) := by
  refine F.ok (k := 1) sc_l_far (fun vs H Q E h => ?_) (fun cdv A2 outer s H vs Q E hr h => ⟨t_l_far A E, ?_, p_l_far A  h⟩)
  · unfold sp_l_far at h
    (repeat (obtain ⟨_, h⟩ := h))
    all_goals (subst_vars; rfl)
  · have hr_1 := hr.mono (show 1 ≤ 1 by decide)
    exact pss_cons (ps_set (i := 2) sc_l_far.nd rfl (Or.inl rfl) (pe_call G_l_chain.ok hr_1 (by rfl) G_l_chain.mg G_l_chain.kp G_l_chain.b .nil (passL) (pa_cons (pv 0) (pa_cons (pv 1) (pa_nil))))) (pss_cons (ps_set (i := 3) sc_l_far.nd rfl (Or.inl rfl) (pe_int)) (pss_cons (ps_lock (ps_for (passes_of rfl) rfl (pi_keys (pv 0)) (pg_name (i := 4) sc_l_far.nd rfl (Or.inl rfl)) (pss_cons (ps_set (i := 5) sc_l_far.nd rfl (Or.inl rfl) (pe_call G_l_chain.ok hr_1 (by rfl) G_l_chain.mg G_l_chain.kp G_l_chain.b .nil (passL) (pa_cons (pv 0) (pa_cons (pv 4) (pa_nil))))) (pss_one (ps_for (passes_of rfl) rfl (pi_range1 rfl T.range_ (pa_cons (pe_callB call_lenG (by rfl) T.len_ (by decide +kernel) (pa_cons (pv 5) (pa_nil))) (pa_nil))) (pg_name (i := 6) sc_l_far.nd rfl (Or.inl rfl)) (pss_one (ps_if (pt_cmpR op_in_seq (pe_ix ix_seq (pv 5) (pv 6) (fun _ _ => rfl)) (pv 2) (by rfl)) (pss_cons (ps_set (i := 3) sc_l_far.nd rfl (Or.inl rfl) (pe_callB (call_max2 rfl) (by rfl) T.max_ (by decide +kernel) (pa_cons (pv 3) (pa_cons (pe_op op_add3 (pv 6) (pe_bm PySem.F.plainAttrs_list PySem.F.slot_list_index PySem.F.type_list_index mt_index (pv 2) (pa_cons (pe_ix ix_seq (pv 5) (pv 6) (fun _ _ => rfl)) (pa_nil)))) (pa_nil))))) (pss_one (ps_break))) (pss_nil)))))))) (pss_one (ps_ret (pv 3)))))
theorem d_l_turned (T : TF A mg)  {f : Addr} {fd : FuncData} (F : FunD A.K "_law_turned" "_law_turned" (defArgs s_l_turned) (defBody s_l_turned) (defScope s_l_turned) [] [] f fd) {f_l_chain : Addr} {fd_l_chain : FuncData} (G_l_chain : FnAt P w A.K mg base "_law_chain" 1 a_l_chain (sp_l_chain A) f_l_chain fd_l_chain) : FnOk P w A.K mg base (L2.CX P w) 2 f fd a_l_turned (sp_l_turned A) := by
  refine F.ok (k := 1) sc_l_turned (fun vs H Q E h => ?_) (fun cdv A2 outer s H vs Q E hr h => ⟨t_l_turned A E, ?_, p_l_turned A  h⟩)
  · unfold sp_l_turned at h
    (repeat (obtain ⟨_, h⟩ := h))
    all_goals (subst_vars; rfl)
  · have hr_1 := hr.mono (show 1 ≤ 1 by decide)
    exact pss_cons (ps_set (i := 3) sc_l_turned.nd rfl (Or.inl rfl) (pe_call G_l_chain.ok hr_1 (by rfl) G_l_chain.mg G_l_chain.kp G_l_chain.b .nil (passL) (pa_cons (pv 0) (pa_cons (pv 1) (pa_nil))))) (pss_cons (ps_set (i := 4) sc_l_turned.nd rfl (Or.inl rfl) (pe_callTy call_dictD (by rfl) T.dict_ (by decide +kernel) (pa_cons (pv 0) (pa_nil)))) (pss_cons (ps_for (passes_of rfl) rfl (pi_range2 rfl T.range_ (pa_cons (pe_int) (pa_cons (pe_callB call_lenG (by rfl) T.len_ (by decide +kernel) (pa_cons (pv 3) (pa_nil))) (pa_nil)))) (pg_name (i := 5) sc_l_turned.nd rfl (Or.inl rfl)) (pss_cons (ps_set (i := 6) sc_l_turned.nd rfl (Or.inl rfl) (pe_ix ix_seq (pe_dget (hu_of hr) (pv 0) (pe_ix ix_seq (pv 3) (pe_op op_sub (pv 5) (pe_int)) (fun _ _ => rfl)) (fun _ _ => rfl)) (pe_int) (fun _ _ => rfl))) (pss_one (ps_dput (hu_of hr) (pv 4) (pe_ix ix_seq (pv 3) (pv 5) (fun _ _ => rfl)) (pe_tup (pa_cons (pe_ix ix_seq (pv 3) (pe_op op_sub (pv 5) (pe_int)) (fun _ _ => rfl)) (pa_cons (pe_tup (pa_cons (pe_ix ix_seq (pv 6) (pe_int) (fun _ _ => rfl)) (pa_cons (pe_ix ix_seq (pv 6) (pe_int) (fun _ _ => rfl)) (pa_cons (pe_ix ix_seq (pv 6) (pe_int) (fun _ _ => rfl)) (pa_nil))))) (pa_nil)))) rfl)))) (pss_cons (ps_dput (hu_of hr) (pv 4) (pv 1) (pe_tup (pa_cons (pe_non) (pa_cons (pv 2) (pa_nil)))) rfl) (pss_one (ps_ret (pv 4))))))
theorem d_l_seen (T : TF A mg) (pk : PkOk A) {f : Addr} {fd : FuncData} (F : FunD A.K "_law_seen" "_law_seen" (defArgs s_l_seen) (defBody s_l_seen) (defScope s_l_seen) [] [] f fd) {f_l_rows_are : Addr} {fd_l_rows_are : FuncData} (G_l_rows_are : FnAt P w A.K mg base "_law_rows_are" 3 a_l_rows_are (sp_l_rows_are A) f_l_rows_are fd_l_rows_are) {f_l_chain : Addr} {fd_l_chain : FuncData} (G_l_chain : FnAt P w A.K mg base "_law_chain" 1 a_l_chain (sp_l_chain A) f_l_chain fd_l_chain) {f_P_rows : Addr} {fd_P_rows : FuncData} (G_P_rows : MeAt P w A.K mg base A.cPack "rows" 2 a_P_rows (sp_P_rows A) f_P_rows fd_P_rows) {f_P_numbers : Addr} {fd_P_numbers : FuncData} (G_P_numbers : MeAt P w A.K mg base A.cPack "numbers" 1 a_P_numbers (sp_P_numbers A) f_P_numbers fd_P_numbers) {f_P_base : Addr} {fd_P_base : FuncData} (G_P_base : MeAt P w A.K mg base A.cPack "base" 3 a_P_base (sp_P_base A) f_P_base fd_P_base) {f_P_chain : Addr} {fd_P_chain : FuncData} (G_P_chain : MeAt P w A.K mg base A.cPack "chain" 3 a_P_chain (sp_P_chain A) f_P_chain fd_P_chain) {f_P_bases : Addr} {fd_P_bases : FuncData} (G_P_bases : MeAt P w A.K mg base A.cPack "bases" 1 a_P_bases (sp_P_bases A) f_P_bases fd_P_bases) : FnOk P w A.K mg base (L2.CX P w) 4 f fd a_l_seen (sp_l_seen A) := by
  refine F.ok (k := 3) sc_l_seen (fun vs H Q E h => ?_) (fun cdv A2 outer s H vs Q E hr h => ⟨t_l_seen A E, ?_, p_l_seen A pk h⟩)
  · unfold sp_l_seen at h
    (repeat (obtain ⟨_, h⟩ := h))
    all_goals (subst_vars; rfl)
  · have hr_1 := hr.mono (show 1 ≤ 3 by decide)
    have hr_2 := hr.mono (show 2 ≤ 3 by decide)
    have hr_3 := hr.mono (show 3 ≤ 3 by decide)
    exact pss_cons (ps_set (i := 3) sc_l_seen.nd rfl (Or.inl rfl) (pe_callB (call_sortedDI rfl) (by rfl) T.sorted_ (by decide +kernel) (pa_cons (pv 1) (pa_nil)))) (pss_cut (ps_if (PW.pt (pw_and (pt_cmpR (op_eqG hr.units) (pe_op op_mod (pv 2) (pe_int)) (pe_int) (nomark _)) (pw_and1 (PW.pt (pw_or (pt_cmpR (op_neG hr.units) (pe_meth0 (pv 0) T.cl G_P_numbers.mt G_P_numbers.ok hr_1 G_P_numbers.b .nil (passL)) (pv 3) (nomark _)) (pw_or1 (pt_cmpR (op_neG hr.units) (pe_callTy (call_listG rfl) (by rfl) T.list_ (by decide +kernel) (pa_cons (pe_meth0 (pv 0) T.cl G_P_bases.mt G_P_bases.ok hr_1 G_P_bases.b .nil (passL)) (pa_nil))) (pv 3) (nomark _)))))))) (pss_one (ps_ret (pe_bl))) (pss_nil)) (pss_cons (ps_setLc (i := 4) (own := [("_law_one", 5)]) (g := gName 5) (tt := tYes) rfl sc_l_seen.nd rfl rfl (sw_true rfl rfl rfl (by decide +kernel)) (pi_list (pv 3)) (blkOk_by (own := [("_law_one", 5)]) (N := n_l_seen) (sc := defScope s_l_seen) (by decide +kernel)) (fun _ _ _ _ _ => pg_name (i := 5) sc_l_seen.nd rfl (Or.inl rfl)) (fun _ _ _ _ _ => pts_nil) (fun _ _ _ _ _ => pe_ix ix_seq (pe_dget (hu_of hr) (pv 1) (pv 5) (fun _ _ => rfl)) (pe_int) (fun _ _ => rfl))) (pss_cut (ps_if (PW.pt (pw_and (pt_cmpR (op_eqG hr.units) (pe_op op_mod (pv 2) (pe_int)) (pe_int) (nomark _)) (pw_and1 (pt_cmpR (op_neG hr.units) (pe_lc (own := [("_law_one", 5)]) (g := gName 5) (tt := tYes) rfl sc_l_seen.nd (pi_list (pv 3)) (blkOk_by (own := [("_law_one", 5)]) (N := n_l_seen) (sc := defScope s_l_seen) (by decide +kernel)) (fun _ _ _ _ _ => pg_name (i := 5) sc_l_seen.nd rfl (Or.inl rfl)) (fun _ _ _ _ _ => pts_nil) (fun _ _ _ _ _ => pe_meth (pv 0) T.cl G_P_base.mt G_P_base.ok hr_3 G_P_base.b .nil (passL) (pa_cons (pv 5) (pa_nil)))) (pv 4) (nomark _))))) (pss_one (ps_ret (pe_bl))) (pss_nil)) (pss_cons (ps_set (i := 6) sc_l_seen.nd rfl (Or.inl rfl) (pe_slice sl_2 (pv 3) (po_some (pe_un un_neg (pe_int))) (po_none))) (pss_cons (ps_setLc (i := 4) (own := [("_law_one", 5)]) (g := gName 5) (tt := tYes) rfl sc_l_seen.nd rfl rfl (sw_true rfl rfl rfl (by decide +kernel)) (pi_list (pv 6)) (blkOk_by (own := [("_law_one", 5)]) (N := n_l_seen) (sc := defScope s_l_seen) (by decide +kernel)) (fun _ _ _ _ _ => pg_name (i := 5) sc_l_seen.nd rfl (Or.inl rfl)) (fun _ _ _ _ _ => pts_nil) (fun _ _ _ _ _ => pe_call G_l_chain.ok hr_1 (by rfl) G_l_chain.mg G_l_chain.kp G_l_chain.b .nil (passL) (pa_cons (pv 1) (pa_cons (pv 5) (pa_nil))))) (pss_cut (ps_if (PW.pt (pw_and (pt_cmpR (op_eqG hr.units) (pe_op op_mod (pv 2) (pe_int)) (pe_int) (nomark _)) (pw_and1 (pt_cmpR (op_neG hr.units) (pe_lc (own := [("_law_one", 5)]) (g := gName 5) (tt := tYes) rfl sc_l_seen.nd (pi_list (pv 6)) (blkOk_by (own := [("_law_one", 5)]) (N := n_l_seen) (sc := defScope s_l_seen) (by decide +kernel)) (fun _ _ _ _ _ => pg_name (i := 5) sc_l_seen.nd rfl (Or.inl rfl)) (fun _ _ _ _ _ => pts_nil) (fun _ _ _ _ _ => pe_meth (pv 0) T.cl G_P_chain.mt G_P_chain.ok hr_3 G_P_chain.b .nil (passL) (pa_cons (pv 5) (pa_nil)))) (pv 4) (nomark _))))) (pss_one (ps_ret (pe_bl))) (pss_nil)) (pss_one (ps_ret (pe_call G_l_rows_are.ok hr_3 (by rfl) G_l_rows_are.mg G_l_rows_are.kp G_l_rows_are.b .nil (passL) (pa_cons (pe_meth0 (pv 0) T.cl G_P_rows.mt G_P_rows.ok hr_2 G_P_rows.b .nil (passL)) (pa_cons (pv 1) (pa_nil))))))))))))
theorem d_l_held_well (T : TF A mg)  {f : Addr} {fd : FuncData} (F : FunD A.K "_law_held_well" "_law_held_well" (defArgs s_l_held_well) (defBody s_l_held_well) (defScope s_l_held_well) [] [] f fd) : FnOk P w A.K mg base (L2.CX P w) 1 f fd a_l_held_well (sp_l_held_well A) := by
  refine F.ok (k := 0) sc_l_held_well (fun vs H Q E h => ?_) (fun cdv A2 outer s H vs Q E hr h => ⟨t_l_held_well A E, ?_, p_l_held_well A  h⟩)
  · unfold sp_l_held_well at h
    (repeat (obtain ⟨_, h⟩ := h))
    all_goals (subst_vars; rfl)
  · exact pss_cons (ps_for (passes_of rfl) rfl (pi_list (pv 0)) (pg_name (i := 1) sc_l_held_well.nd rfl (Or.inl rfl)) (pss_one (ps_if (pt_cmpR (op_neG hr.units) (pe_ix ix_seq (pv 1) (pe_int) (fun _ _ => rfl)) (pe_ix ix_seq (pv 1) (pe_int) (fun _ _ => rfl)) (nomark _)) (pss_one (ps_ret (pe_bl))) (pss_nil)))) (pss_one (ps_ret (pe_bl)))
theorem d_l_asked (T : TF A mg) (pk : PkOk A) {f : Addr} {fd : FuncData} (F : FunD A.K "_law_asked" "_law_asked" (defArgs s_l_asked) (defBody s_l_asked) (defScope s_l_asked) [] [] f fd) {f_l_rows_are : Addr} {fd_l_rows_are : FuncData} (G_l_rows_are : FnAt P w A.K mg base "_law_rows_are" 3 a_l_rows_are (sp_l_rows_are A) f_l_rows_are fd_l_rows_are) {f_P_rows : Addr} {fd_P_rows : FuncData} (G_P_rows : MeAt P w A.K mg base A.cPack "rows" 2 a_P_rows (sp_P_rows A) f_P_rows fd_P_rows) {f_P_numbers : Addr} {fd_P_numbers : FuncData} (G_P_numbers : MeAt P w A.K mg base A.cPack "numbers" 1 a_P_numbers (sp_P_numbers A) f_P_numbers fd_P_numbers) {f_P_bases : Addr} {fd_P_bases : FuncData} (G_P_bases : MeAt P w A.K mg base A.cPack "bases" 1 a_P_bases (sp_P_bases A) f_P_bases fd_P_bases) {f_P_chain : Addr} {fd_P_chain : FuncData} (G_P_chain : MeAt P w A.K mg base A.cPack "chain" 3 a_P_chain (sp_P_chain A) f_P_chain fd_P_chain) {f_P_read : Addr} {fd_P_read : FuncData} (G_P_read : MeAt P w A.K mg base A.cPack "read" 3 a_P_read (sp_P_read A) f_P_read fd_P_read) {f_P_base : Addr} {fd_P_base : FuncData} (G_P_base : MeAt P w A.K mg base A.cPack "base" 3 a_P_base (sp_P_base A) f_P_base fd_P_base) {f_l_chain : Addr} {fd_l_chain : FuncData} (G_l_chain : FnAt P w A.K mg base "_law_chain" 1 a_l_chain (sp_l_chain A) f_l_chain fd_l_chain) {f_P_weight : Addr} {fd_P_weight : FuncData} (G_P_weight : MeAt P w A.K mg base A.cPack "weight" 1 a_P_weight (sp_P_weight A) f_P_weight fd_P_weight) : FnOk P w A.K mg base (L2.CX P w) 4 f fd a_l_asked (sp_l_asked A) := by
  refine F.ok (k := 3) sc_l_asked (fun vs H Q E h => ?_) (fun cdv A2 outer s H vs Q E hr h => ⟨t_l_asked A E, ?_, p_l_asked A pk h⟩)
  · unfold sp_l_asked at h
    (repeat (obtain ⟨_, h⟩ := h))
    all_goals (subst_vars; rfl)
  · have hr_1 := hr.mono (show 1 ≤ 3 by decide)
    have hr_2 := hr.mono (show 2 ≤ 3 by decide)
    have hr_3 := hr.mono (show 3 ≤ 3 by decide)
    exact pss_cons (ps_set (i := 5) sc_l_asked.nd rfl (Or.inl rfl) (pe_callB (call_sortedDI rfl) (by rfl) T.sorted_ (by decide +kernel) (pa_cons (pv 1) (pa_nil)))) (pss_cons (ps_set (i := 6) sc_l_asked.nd rfl (Or.inl rfl) (pe_ix ix_seq (pv 5) (pe_op op_mod (pe_op op_fdiv (pv 3) (pe_int)) (pe_callB call_lenG (by rfl) T.len_ (by decide +kernel) (pa_cons (pv 5) (pa_nil)))) (fun _ _ => rfl))) (pss_cons (ps_set (i := 7) sc_l_asked.nd rfl (Or.inl rfl) (pe_lst (pa_cons (pe_meth0 (pv 0) T.cl G_P_rows.mt G_P_rows.ok hr_2 G_P_rows.b .nil (passes_call (takes_of rfl rfl rfl rfl) (fun _ _ _ _ h => h))) (pa_cons (pe_meth0 (pv 0) T.cl G_P_numbers.mt G_P_numbers.ok hr_1 G_P_numbers.b .nil (passes_call (takes_of rfl rfl rfl rfl) (fun _ _ _ _ h => h))) (pa_cons (pe_meth0 (pv 0) T.cl G_P_bases.mt G_P_bases.ok hr_1 G_P_bases.b .nil (passes_call (takes_of rfl rfl rfl rfl) (fun _ _ _ _ h => h))) (pa_cons (pe_meth (pv 0) T.cl G_P_chain.mt G_P_chain.ok hr_3 G_P_chain.b .nil (passes_call (takes_of rfl rfl rfl rfl) (fun _ _ _ _ h => h)) (pa_cons (pv 6) (pa_nil))) (pa_nil))))))) (pss_cons (ps_expr (pe_bm PySem.F.plainAttrs_list PySem.F.slot_list_append PySem.F.type_list_append mt_append (pv 4) (pa_cons (pe_lst (pa_cons (pv 7) (pa_cons (pe_lst (pa_cons (pe_callTy (call_listG rfl) (by rfl) T.list_ (by decide +kernel) (pa_cons (pe_ix ix_seq (pv 7) (pe_int) (fun _ _ => rfl)) (pa_nil))) (pa_cons (pe_callTy (call_listG rfl) (by rfl) T.list_ (by decide +kernel) (pa_cons (pe_ix ix_seq (pv 7) (pe_int) (fun _ _ => rfl)) (pa_nil))) (pa_cons (pe_callTy call_dictD (by rfl) T.dict_ (by decide +kernel) (pa_cons (pe_ix ix_seq (pv 7) (pe_int) (fun _ _ => rfl)) (pa_nil))) (pa_cons (pe_callTy (call_listG rfl) (by rfl) T.list_ (by decide +kernel) (pa_cons (pe_ix ix_seq (pv 7) (pe_int) (fun _ _ => rfl)) (pa_nil))) (pa_nil)))))) (pa_nil)))) (pa_nil)))) (pss_cons (ps_for (passes_of rfl) rfl (pi_range1 rfl T.range_ (pa_cons (pe_op op_add3 (pe_int) (pe_op op_mod (pv 3) (pe_int))) (pa_nil))) (pg_name (i := 8) sc_l_asked.nd rfl (Or.inl rfl)) (pss_cut (ps_if (PW.pt (pw_or (pt_cmpR (op_neG hr.units) (pe_meth (pv 0) T.cl G_P_read.mt G_P_read.ok hr_3 G_P_read.b .nil (passes_call (takes_of rfl rfl rfl rfl) (fun _ _ _ _ h => h)) (pa_cons (pv 6) (pa_nil))) (pe_dget (hu_of hr) (pv 2) (pv 6) (fun _ _ => rfl)) (nomark _)) (pw_or1 (pt_cmpR (op_neG hr.units) (pe_meth (pv 0) T.cl G_P_base.mt G_P_base.ok hr_3 G_P_base.b .nil (passes_call (takes_of rfl rfl rfl rfl) (fun _ _ _ _ h => h)) (pa_cons (pv 6) (pa_nil))) (pe_ix ix_seq (pe_dget (hu_of hr) (pv 1) (pv 6) (fun _ _ => rfl)) (pe_int) (fun _ _ => rfl)) (nomark _))))) (pss_one (ps_ret (pe_bl))) (pss_nil)) (pss_one (ps_if (PW.pt (pw_or (pt_cmpR (op_neG hr.units) (pe_meth (pv 0) T.cl G_P_chain.mt G_P_chain.ok hr_3 G_P_chain.b .nil (passes_call (takes_of rfl rfl rfl rfl) (fun _ _ _ _ h => h)) (pa_cons (pv 6) (pa_nil))) (pe_call G_l_chain.ok hr_1 (by rfl) G_l_chain.mg G_l_chain.kp G_l_chain.b .nil (passes_call (takes_of rfl rfl rfl rfl) (fun _ _ _ _ h => h)) (pa_cons (pv 1) (pa_cons (pv 6) (pa_nil)))) (nomark _)) (pw_or1 (pt_cmpR op_lt (pe_meth0 (pv 0) T.cl G_P_weight.mt G_P_weight.ok hr_1 G_P_weight.b .nil (passes_call (takes_of rfl rfl rfl rfl) (fun _ _ _ _ h => h))) (pe_int) (nomark _))))) (pss_one (ps_ret (pe_bl))) (pss_nil))))) (pss_one (ps_ret (pe_call G_l_rows_are.ok hr_3 (by rfl) G_l_rows_are.mg G_l_rows_are.kp G_l_rows_are.b .nil (passes_call (takes_of rfl rfl rfl rfl) (fun _ _ _ _ h => h)) (pa_cons (pe_meth0 (pv 0) T.cl G_P_rows.mt G_P_rows.ok hr_2 G_P_rows.b .nil (passes_call (takes_of rfl rfl rfl rfl) (fun _ _ _ _ h => h))) (pa_cons (pv 1) (pa_nil))))))))))
theorem d_l_one_more (T : TF A mg) (pk : PkOk A) {f : Addr} {fd : FuncData} (F : FunD A.K "_law_one_more" "_law_one_more" (defArgs s_l_one_more) (defBody s_l_one_more) (defScope s_l_one_more) [] [] f fd) {f_l_next_text : Addr} {fd_l_next_text : FuncData} (G_l_next_text : FnAt P w A.K mg base "_law_next_text" 3 a_l_next_text (sp_l_next_text A) f_l_next_text fd_l_next_text) {f_l_change_of : Addr} {fd_l_change_of : FuncData} (G_l_change_of : FnAt P w A.K mg base "_law_change_of" 1 a_l_change_of (sp_l_change_of A) f_l_change_of fd_l_change_of) {f_P_store : Addr} {fd_P_store : FuncData} (G_P_store : MeAt P w A.K mg base A.cPack "store" 6 a_P_store (sp_P_store A) f_P_store fd_P_store) {f_l_chain : Addr} {fd_l_chain : FuncData} (G_l_chain : FnAt P w A.K mg base "_law_chain" 1 a_l_chain (sp_l_chain A) f_l_chain fd_l_chain) : FnOk P w A.K mg base (L2.CX P w) 7 f fd a_l_one_more (sp_l_one_more A) := by
  refine F.ok (k := 6) sc_l_one_more (fun vs H Q E h => ?_) (fun cdv A2 outer s H vs Q E hr h => ⟨t_l_one_more A E, ?_, p_l_one_more A pk h⟩)
  · unfold sp_l_one_more at h
    (repeat (obtain ⟨_, h⟩ := h))
    all_goals (subst_vars; rfl)
  · have hr_1 := hr.mono (show 1 ≤ 6 by decide)
    have hr_3 := hr.mono (show 3 ≤ 6 by decide)
    have hr_6 := hr.mono (show 6 ≤ 6 by decide)
    exact pss_cons (ps_set (i := 6) sc_l_one_more.nd rfl (Or.inl rfl) (pe_callB (call_sortedDI rfl) (by rfl) T.sorted_ (by decide +kernel) (pa_cons (pv 1) (pa_nil)))) (pss_cons (ps_set (i := 7) sc_l_one_more.nd rfl (Or.inl rfl) (pe_ix ix_seq (pv 6) (pe_op op_mod (pv 5) (pe_callB call_lenG (by rfl) T.len_ (by decide +kernel) (pa_cons (pv 6) (pa_nil)))) (fun _ _ => rfl))) (pss_cons (ps_dput (hu_of hr) (pv 2) (pv 4) (pe_call G_l_next_text.ok hr_3 (by rfl) G_l_next_text.mg G_l_next_text.kp G_l_next_text.b .nil (passL) (pa_cons (pe_dget (hu_of hr) (pv 2) (pv 7) (fun _ _ => rfl)) (pa_cons (pe_op op_fdiv (pv 5) (pe_int)) (pa_nil)))) rfl) (pss_cons (ps_if (pt_cmpR op_gt (pe_callB call_lenG (by rfl) T.len_ (by decide +kernel) (pa_cons (pe_call G_l_chain.ok hr_1 (by rfl) G_l_chain.mg G_l_chain.kp G_l_chain.b .nil (passL) (pa_cons (pv 1) (pa_cons (pv 7) (pa_nil)))) (pa_nil))) (pv 3) (nomark _)) (pss_cons (ps_dput (hu_of hr) (pv 1) (pv 4) (pe_tup (pa_cons (pe_non) (pa_cons (pe_dget (hu_of hr) (pv 2) (pv 4) (fun _ _ => rfl)) (pa_nil)))) rfl) (pss_one (ps_ret (pe_cmpR (op_eqG hr.units) (pe_meth (pv 0) T.cl G_P_store.mt G_P_store.ok hr_6 G_P_store.b .nil (passL) (pa_cons (pe_dget (hu_of hr) (pv 2) (pv 4) (fun _ _ => rfl)) (pa_cons (pe_non) (pa_nil)))) (pv 4) (nomark _))))) (pss_nil)) (pss_cons (ps_dput (hu_of hr) (pv 1) (pv 4) (pe_tup (pa_cons (pv 7) (pa_cons (pe_call G_l_change_of.ok hr_1 (by rfl) G_l_change_of.mg G_l_change_of.kp G_l_change_of.b .nil (passL) (pa_cons (pe_dget (hu_of hr) (pv 2) (pv 7) (fun _ _ => rfl)) (pa_cons (pe_dget (hu_of hr) (pv 2) (pv 4) (fun _ _ => rfl)) (pa_nil)))) (pa_nil)))) rfl) (pss_one (ps_ret (pe_cmpR (op_eqG hr.units) (pe_meth (pv 0) T.cl G_P_store.mt G_P_store.ok hr_6 G_P_store.b .nil (passL) (pa_cons (pe_dget (hu_of hr) (pv 2) (pv 4) (fun _ _ => rfl)) (pa_cons (pv 7) (pa_nil)))) (pv 4) (nomark _))))))))
theorem d_l_root_told (T : TF A mg) (pk : PkOk A) (ok : Okk A) {f : Addr} {fd : FuncData} (F : FunD A.K "_law_root_told" "_law_root_told" (defArgs s_l_root_told) (defBody s_l_root_told) (defScope s_l_root_told) [] [] f fd) {f_P_root : Addr} {fd_P_root : FuncData} (G_P_root : MeAt P w A.K mg base A.cPack "root" 6 a_P_root (sp_P_root A) f_P_root fd_P_root) : FnOk P w A.K mg base (L2.CX P w) 7 f fd a_l_root_told (sp_l_root_told A) := by
  refine F.ok (k := 6) sc_l_root_told (fun vs H Q E h => ?_) (fun cdv A2 outer s H vs Q E hr h => ⟨t_l_root_told A E, ?_, p_l_root_told A pk ok h⟩)
  · unfold sp_l_root_told at h
    (repeat (obtain ⟨_, h⟩ := h))
    all_goals (subst_vars; rfl)
  · have hr_6 := hr.mono (show 6 ≤ 6 by decide)
    exact pss_cut (ps_if (pt_val (pv 2)) (pss_one (ps_try_any rfl rfl takes_none5 (fun W pn xe tk px => pss_one (ps_ret (pe_cmpR (op_eqG hr.units) (pe_lst (pa_cons (pe_methW (pv 0) T.cl G_P_root.mt G_P_root.ok hr_6 G_P_root.b (fun σ => passAt tk σ) (pa_cons (pv 1) (pa_nil))) (pa_nil))) (pe_lst (pa_cons (pe_non) (pa_nil))) (nomark _)))) (.as (i := 3) sc_l_root_told.nd rfl rfl (clt_one (show Names _ _ _ from ⟨by rfl, by decide, .inl T.ePackError.mg⟩)) (fun a oe cls d pn hz hf => pss_one (ps_ret (pe_ifExp (pt_val (pe_callB (call_isX hz hf) (by rfl) T.isinstance_ (by decide +kernel) (pa_cons (pv 3) (pa_cons (pe_bltn (by rfl) T.ValueError_ (by decide +kernel) rfl) (pa_nil))))) (pe_str) (pe_str)))) .nil))) (pss_nil)) (pss_one (ps_try_any rfl rfl takes_none5 (fun W pn xe tk px => pss_one (ps_ret (pe_cmpR (op_eqG hr.units) (pe_lst (pa_cons (pe_methW (pv 0) T.cl G_P_root.mt G_P_root.ok hr_6 G_P_root.b (fun σ => passAt tk σ) (pa_cons (pv 1) (pa_nil))) (pa_nil))) (pe_lst (pa_cons (pe_non) (pa_nil))) (nomark _)))) (.one (clt_one (show Names _ _ _ from ⟨by rfl, by decide, .inl T.eTooFar.mg⟩)) (fun a oe cls d pn hz hf => pss_one (ps_ret (pe_str))) .nil)))
theorem d_l_law (T : TF A mg) (pk : PkOk A) (ok : Okk A) {f : Addr} {fd : FuncData} (F : FunD A.K "law" "law" (defArgs s_l_law) (defBody s_l_law) (defScope s_l_law) [] [] f fd) {f_l_made : Addr} {fd_l_made : FuncData} (G_l_made : FnAt P w A.K mg base "_law_made" 4 a_l_made (sp_l_made A) f_l_made fd_l_made) {f_l_rows_of : Addr} {fd_l_rows_of : FuncData} (G_l_rows_of : FnAt P w A.K mg base "_law_rows_of" 1 a_l_rows_of (sp_l_rows_of A) f_l_rows_of fd_l_rows_of) {f_opened : Addr} {fd_opened : FuncData} (G_opened : FnAt P w A.K mg base "opened" 4 a_opened (sp_opened A) f_opened fd_opened) {f_l_cells : Addr} {fd_l_cells : FuncData} (G_l_cells : FnAt P w A.K mg base "_law_cells" 2 a_l_cells (sp_l_cells A) f_l_cells fd_l_cells) {f_l_cell_at : Addr} {fd_l_cell_at : FuncData} (G_l_cell_at : FnAt P w A.K mg base "_law_cell_at" 1 a_l_cell_at (sp_l_cell_at A) f_l_cell_at fd_l_cell_at) {f_l_rows_are : Addr} {fd_l_rows_are : FuncData} (G_l_rows_are : FnAt P w A.K mg base "_law_rows_are" 3 a_l_rows_are (sp_l_rows_are A) f_l_rows_are fd_l_rows_are) {f_l_longest : Addr} {fd_l_longest : FuncData} (G_l_longest : FnAt P w A.K mg base "_law_longest" 2 a_l_longest (sp_l_longest A) f_l_longest fd_l_longest) {f_l_far : Addr} {fd_l_far : FuncData} (G_l_far : FnAt P w A.K mg base "_law_far" 2 a_l_far (sp_l_far A) f_l_far fd_l_far) {f_l_turned : Addr} {fd_l_turned : FuncData} (G_l_turned : FnAt P w A.K mg base "_law_turned" 2 a_l_turned (sp_l_turned A) f_l_turned fd_l_turned) {f_P_read : Addr} {fd_P_read : FuncData} (G_P_read : MeAt P w A.K mg base A.cPack "read" 3 a_P_read (sp_P_read A) f_P_read fd_P_read) {f_l_held_well : Addr} {fd_l_held_well : FuncData} (G_l_held_well : FnAt P w A.K mg base "_law_held_well" 1 a_l_held_well (sp_l_held_well A) f_l_held_well fd_l_held_well) {f_P_store : Addr} {fd_P_store : FuncData} (G_P_store : MeAt P w A.K mg base A.cPack "store" 6 a_P_store (sp_P_store A) f_P_store fd_P_store) {f_P_rows : Addr} {fd_P_rows : FuncData} (G_P_rows : MeAt P w A.K mg base A.cPack "rows" 2 a_P_rows (sp_P_rows A) f_P_rows fd_P_rows) {f_l_one_more : Addr} {fd_l_one_more : FuncData} (G_l_one_more : FnAt P w A.K mg base "_law_one_more" 7 a_l_one_more (sp_l_one_more A) f_l_one_more fd_l_one_more) {f_l_asked : Addr} {fd_l_asked : FuncData} (G_l_asked : FnAt P w A.K mg base "_law_asked" 4 a_l_asked (sp_l_asked A) f_l_asked fd_l_asked) {f_l_root_told : Addr} {fd_l_root_told : FuncData} (G_l_root_told : FnAt P w A.K mg base "_law_root_told" 7 a_l_root_told (sp_l_root_told A) f_l_root_told fd_l_root_told) {f_l_seen : Addr} {fd_l_seen : FuncData} (G_l_seen : FnAt P w A.K mg base "_law_seen" 4 a_l_seen (sp_l_seen A) f_l_seen fd_l_seen) : FnOk P w A.K mg base CX0 8 f fd a_l_law (sp_l_law A) := by
  refine F.ok (k := 7) sc_l_law (fun vs H Q E h => ?_) (fun cdv A2 outer s H vs Q E hr h => ⟨t_l_law A E, ?_, p_l_law A pk ok h⟩)
  · unfold sp_l_law at h
    (repeat (obtain ⟨_, h⟩ := h))
    all_goals (subst_vars; rfl)
  · have hr_1 := hr.mono (show 1 ≤ 7 by decide)
    have hr_2 := hr.mono (show 2 ≤ 7 by decide)
    have hr_3 := hr.mono (show 3 ≤ 7 by decide)
    have hr_4 := hr.mono (show 4 ≤ 7 by decide)
    have hr_6 := hr.mono (show 6 ≤ 7 by decide)
    have hr_7 := hr.mono (show 7 ≤ 7 by decide)
    exact pss_cons (ps_set (i := 1) sc_l_law.nd rfl (Or.inl rfl) (pe_op op_add3 (pe_int) (pe_op op_mod (pe_call G_l_cell_at.ok hr_1 (by rfl) G_l_cell_at.mg G_l_cell_at.kp G_l_cell_at.b .nil (passL) (pa_cons (pv 0) (pa_cons (pe_int) (pa_nil)))) (pe_int)))) (pss_cut (ps_if (pt_cmpR (op_eqG hr.units) (pe_op op_mod (pe_op op_fdiv (pe_call G_l_cell_at.ok hr_1 (by rfl) G_l_cell_at.mg G_l_cell_at.kp G_l_cell_at.b .nil (passL) (pa_cons (pv 0) (pa_cons (pe_int) (pa_nil)))) (pe_int)) (pe_int)) (pe_int) (nomark _)) (pss_one (ps_set (i := 1) sc_l_law.nd rfl (Or.inl rfl) (pe_op op_add3 (pv 1) (pe_int)))) (pss_nil)) (pss_cons (ps_set (i := 2) sc_l_law.nd rfl (Or.inl rfl) (pe_call G_l_made.ok hr_4 (by rfl) G_l_made.mg G_l_made.kp G_l_made.b .nil (passL) (pa_cons (pe_call G_l_cells.ok hr_2 (by rfl) G_l_cells.mg G_l_cells.kp G_l_cells.b .nil (passL) (pa_cons (pv 0) (pa_cons (pe_int) (pa_cons (pv 1) (pa_nil))))) (pa_cons (pe_call G_l_cell_at.ok hr_1 (by rfl) G_l_cell_at.mg G_l_cell_at.kp G_l_cell_at.b .nil (passL) (pa_cons (pv 0) (pa_cons (pe_int) (pa_nil)))) (pa_nil))))) (pss_cons (ps_set (i := 3) sc_l_law.nd rfl (Or.inl rfl) (pe_ix ix_seq (pv 2) (pe_int) (fun _ _ => rfl))) (pss_cons (ps_set (i := 4) sc_l_law.nd rfl (Or.inl rfl) (pe_callB (call_min2 rfl) (by rfl) T.min_ (by decide +kernel) (pa_cons (pe_int) (pa_cons (pe_op op_add3 (pe_ix ix_seq (pe_lst (pa_cons (pe_int) (pa_cons (pe_int) (pa_cons (pe_int) (pa_cons (pe_int) (pa_nil)))))) (pe_op op_mod (pe_call G_l_cell_at.ok hr_1 (by rfl) G_l_cell_at.mg G_l_cell_at.kp G_l_cell_at.b .nil (passL) (pa_cons (pv 0) (pa_cons (pe_int) (pa_nil)))) (pe_int)) (fun _ _ => rfl)) (pe_call G_l_longest.ok hr_2 (by rfl) G_l_longest.mg G_l_longest.kp G_l_longest.b .nil (passL) (pa_cons (pv 3) (pa_nil)))) (pa_nil))))) (pss_cons (ps_set (i := 5) sc_l_law.nd rfl (Or.inl rfl) (pe_call G_l_rows_of.ok hr_1 (by rfl) G_l_rows_of.mg G_l_rows_of.kp G_l_rows_of.b .nil (passL) (pa_cons (pv 3) (pa_nil)))) (pss_cons (ps_set (i := 6) sc_l_law.nd rfl (Or.inl rfl) (pe_call G_opened.ok hr_4 (by rfl) G_opened.mg G_opened.kp G_opened.b .nil (passL) (pa_cons (pv 5) (pa_cons (pv 4) (pa_nil))))) (pss_cons (ps_set (i := 7) sc_l_law.nd rfl (Or.inl rfl) (pe_call G_opened.ok hr_4 (by rfl) G_opened.mg G_opened.kp G_opened.b .nil (passL) (pa_cons (pv 5) (pa_cons (pv 4) (pa_nil))))) (pss_cons (ps_set (i := 8) sc_l_law.nd rfl (Or.inl rfl) (pe_lst (pa_nil))) (pss_cons (ps_set (i := 9) sc_l_law.nd rfl (Or.inl rfl) (pe_callTy call_dictD (by rfl) T.dict_ (by decide +kernel) (pa_cons (pe_ix ix_seq (pv 2) (pe_int) (fun _ _ => rfl)) (pa_nil)))) (pss_cons (ps_set (i := 10) sc_l_law.nd rfl (Or.inl rfl) (pe_ix ix_seq (pe_callB (call_sortedDI rfl) (by rfl) T.sorted_ (by decide +kernel) (pa_cons (pv 3) (pa_nil))) (pe_un un_neg (pe_int)) (fun _ _ => rfl))) (pss_cons (ps_for (passes_of rfl) rfl (pi_range1 rfl T.range_ (pa_cons (pe_int) (pa_nil))) (pg_name (i := 11) sc_l_law.nd rfl (Or.inl rfl)) (pss_cons (ps_set (i := 12) sc_l_law.nd rfl (Or.inl rfl) (pe_call G_l_cell_at.ok hr_1 (by rfl) G_l_cell_at.mg G_l_cell_at.kp G_l_cell_at.b .nil (passL) (pa_cons (pv 0) (pa_cons (pe_op op_add3 (pe_int) (pv 11)) (pa_nil))))) (pss_cut (ps_if (PW.pt (pw_and (pt_cmpR (op_eqG hr.units) (pv 11) (pe_int) (nomark _)) (pw_and1 (pt_cmpR (op_eqG hr.units) (pe_op op_mod (pe_op op_fdiv (pv 12) (pe_int)) (pe_int)) (pe_int) (nomark _))))) (pss_cons (ps_set (i := 3) sc_l_law.nd rfl (Or.inl rfl) (pe_callTy call_dictD (by rfl) T.dict_ (by decide +kernel) (pa_cons (pv 3) (pa_nil)))) (pss_cons (ps_set (i := 10) sc_l_law.nd rfl (Or.inl rfl) (pe_op op_add3 (pv 10) (pe_int))) (pss_one (ps_if (pt_not (pt_val (pe_call G_l_one_more.ok hr_7 (by rfl) G_l_one_more.mg G_l_one_more.kp G_l_one_more.b .nil (passL) (pa_cons (pv 6) (pa_cons (pv 3) (pa_cons (pv 9) (pa_cons (pv 4) (pa_cons (pv 10) (pa_cons (pv 12) (pa_nil)))))))))) (pss_one (ps_ret (pe_bl))) (pss_nil))))) (pss_nil)) (pss_cut (ps_if (PW.pt (pw_or (pt_not (pt_val (pe_callB call_isi (by rfl) T.isinstance_ (by decide +kernel) (pa_cons (pv 6) (pa_cons (pe_glob rfl T.mgPack rfl) (pa_nil)))))) (pw_or1 (pt_not (pt_val (pe_call G_l_asked.ok hr_4 (by rfl) G_l_asked.mg G_l_asked.kp G_l_asked.b .nil (passL) (pa_cons (pv 6) (pa_cons (pv 3) (pa_cons (pv 9) (pa_cons (pv 12) (pa_cons (pv 8) (pa_nil)))))))))))) (pss_one (ps_ret (pe_bl))) (pss_nil)) (pss_cons (ps_set (i := 13) sc_l_law.nd rfl (Or.inl rfl) (pe_ix ix_seq (pe_callB (call_sortedDI rfl) (by rfl) T.sorted_ (by decide +kernel) (pa_cons (pv 3) (pa_nil))) (pe_op op_mod (pv 12) (pe_callB call_lenG (by rfl) T.len_ (by decide +kernel) (pa_cons (pv 3) (pa_nil)))) (fun _ _ => rfl))) (pss_cons (ps_set (i := 14) sc_l_law.nd rfl (Or.inl rfl) (pe_bl)) (pss_cut (ps_if (pt_cmpR op_gt (pe_call G_l_far.ok hr_2 (by rfl) G_l_far.mg G_l_far.kp G_l_far.b .nil (passL) (pa_cons (pv 3) (pa_cons (pv 13) (pa_nil)))) (pv 4) (nomark _)) (pss_one (ps_set (i := 14) sc_l_law.nd rfl (Or.inl rfl) (pe_str))) (pss_one (ps_set (i := 3) sc_l_law.nd rfl (Or.inl rfl) (pe_call G_l_turned.ok hr_2 (by rfl) G_l_turned.mg G_l_turned.kp G_l_turned.b .nil (passL) (pa_cons (pv 3) (pa_cons (pv 13) (pa_cons (pe_dget (hu_of hr) (pv 9) (pv 13) (fun _ _ => rfl)) (pa_nil)))))))) (pss_one (ps_if (PW.pt (pw_or (pt_cmpR (op_neG hr.units) (pe_call G_l_root_told.ok hr_7 (by rfl) G_l_root_told.mg G_l_root_told.kp G_l_root_told.b .nil (passL) (pa_cons (pv 6) (pa_cons (pv 13) (pa_cons (pe_cmpR (op_eqG hr.units) (pe_op op_mod (pe_op op_fdiv (pv 12) (pe_int)) (pe_int)) (pe_int) (nomark _)) (pa_nil))))) (pv 14) (nomark _)) (pw_or1 (pt_not (pt_val (pe_call G_l_seen.ok hr_4 (by rfl) G_l_seen.mg G_l_seen.kp G_l_seen.b .nil (passL) (pa_cons (pv 6) (pa_cons (pv 3) (pa_cons (pe_op op_fdiv (pv 12) (pe_int)) (pa_nil)))))))))) (pss_one (ps_ret (pe_bl))) (pss_nil)))))))))) (pss_cons (ps_lock (ps_for (passes_of rfl) rfl (pi_keys (pv 3)) (pg_name (i := 15) sc_l_law.nd rfl (Or.inl rfl)) (pss_one (ps_if (pt_cmpR (op_neG hr.units) (pe_meth (pv 6) T.cl G_P_read.mt G_P_read.ok hr_3 G_P_read.b .nil (passL) (pa_cons (pv 15) (pa_nil))) (pe_dget (hu_of hr) (pv 9) (pv 15) (fun _ _ => rfl)) (nomark _)) (pss_one (ps_ret (pe_bl))) (pss_nil))))) (pss_cut (ps_if (PW.pt (pw_or (pt_not (pt_val (pe_call G_l_held_well.ok hr_1 (by rfl) G_l_held_well.mg G_l_held_well.kp G_l_held_well.b .nil (passL) (pa_cons (pv 8) (pa_nil))))) (pw_or (pt_not (pt_val (pe_call G_l_rows_are.ok hr_3 (by rfl) G_l_rows_are.mg G_l_rows_are.kp G_l_rows_are.b .nil (passL) (pa_cons (pe_meth0 (pv 7) T.cl G_P_rows.mt G_P_rows.ok hr_2 G_P_rows.b .nil (passL)) (pa_cons (pe_ix ix_seq (pv 2) (pe_int) (fun _ _ => rfl)) (pa_nil)))))) (pw_or1 (pt_not (pt_val (pe_call G_l_rows_are.ok hr_3 (by rfl) G_l_rows_are.mg G_l_rows_are.kp G_l_rows_are.b .nil (passL) (pa_cons (pv 5) (pa_cons (pe_ix ix_seq (pv 2) (pe_int) (fun _ _ => rfl)) (pa_nil)))))))))) (pss_one (ps_ret (pe_bl))) (pss_nil)) (pss_one (ps_ret (pe_and (pe_cmpR (op_eqG hr.units) (pe_meth (pv 6) T.cl G_P_store.mt G_P_store.ok hr_6 G_P_store.b .nil (passL) (pa_cons (pe_str) (pa_cons (pe_non) (pa_nil)))) (pe_op op_add3 (pv 10) (pe_int)) (nomark _)) (pe_one (pe_call G_l_rows_are.ok hr_3 (by rfl) G_l_rows_are.mg G_l_rows_are.kp G_l_rows_are.b .nil (passL) (pa_cons (pe_meth0 (pv 7) T.cl G_P_rows.mt G_P_rows.ok hr_2 G_P_rows.b .nil (passL)) (pa_cons (pe_ix ix_seq (pv 2) (pe_int) (fun _ _ => rfl)) (pa_nil)))))))))))))))))))))
end
/-! ### the head -/
abbrev adOf (K : PySem.W.Frag) : Ad := ⟨K, He.ga K "Pack", He.ga K "BadBound", He.ga K "BadRows", He.ga K "InRing", He.ga K "NoFit", He.ga K "NoVersion", He.ga K "TooFar", He.ga K "PackError"⟩
theorem facts {P : Program} {w : World} {K : PySem.W.Frag} {h : Heap} {mg : Str → Option Value} {f : Addr} (X : K.In h) (G : h.Ns mainGlobals mg) (hfa : mg ("law" : Str) = some (.ref f)) (c : He.SaysD fa fn K) (cx : ex K = true) :
    ∃ fd : FuncData, (∀ (s : Shared) (v : Value), BindsTo s fd ⟨[v], []⟩ [("_law_script", v)]) ∧ ∀ base : Heap, K.In base → base.Ns mainGlobals mg → FnOk P w K mg base CX0 8 f fd ["_law_script"] (sp_l_law (adOf K)) := by
  obtain ⟨fd_done, F_done⟩ := c.def_ 0 (d := dd_done) rfl
  obtain ⟨fd_turned, F_turned⟩ := c.def_ 1 (d := dd_turned) rfl
  obtain ⟨fd_alike_ahead, F_alike_ahead⟩ := c.def_ 2 (d := dd_alike_ahead) rfl
  obtain ⟨fd_alike_behind, F_alike_behind⟩ := c.def_ 3 (d := dd_alike_behind) rfl
  obtain ⟨fd_change_of, F_change_of⟩ := c.def_ 4 (d := dd_change_of) rfl
  obtain ⟨fd_chain_of, F_chain_of⟩ := c.def_ 5 (d := dd_chain_of) rfl
  obtain ⟨fd_tree_of, F_tree_of⟩ := c.def_ 6 (d := dd_tree_of) rfl
  obtain ⟨fd_sides, F_sides⟩ := c.def_ 7 (d := dd_sides) rfl
  obtain ⟨fd_reach, F_reach⟩ := c.def_ 8 (d := dd_reach) rfl
  obtain ⟨fd_middle, F_middle⟩ := c.def_ 9 (d := dd_middle) rfl
  obtain ⟨fd_is_number, F_is_number⟩ := c.def_ 10 (d := dd_is_number) rfl
  obtain ⟨fd_P_init, F_P_init⟩ := c.def_ 11 (d := dd_P_init) rfl
  obtain ⟨fd_P_need, F_P_need⟩ := c.def_ 12 (d := dd_P_need) rfl
  obtain ⟨fd_P_read, F_P_read⟩ := c.def_ 13 (d := dd_P_read) rfl
  obtain ⟨fd_P_base, F_P_base⟩ := c.def_ 14 (d := dd_P_base) rfl
  obtain ⟨fd_P_chain, F_P_chain⟩ := c.def_ 15 (d := dd_P_chain) rfl
  obtain ⟨fd_P_numbers, F_P_numbers⟩ := c.def_ 16 (d := dd_P_numbers) rfl
  obtain ⟨fd_P_bases, F_P_bases⟩ := c.def_ 17 (d := dd_P_bases) rfl
  obtain ⟨fd_P_rows, F_P_rows⟩ := c.def_ 18 (d := dd_P_rows) rfl
  obtain ⟨fd_P_weight, F_P_weight⟩ := c.def_ 19 (d := dd_P_weight) rfl
  obtain ⟨fd_P_lay, F_P_lay⟩ := c.def_ 20 (d := dd_P_lay) rfl
  obtain ⟨fd_P_turn_to, F_P_turn_to⟩ := c.def_ 21 (d := dd_P_turn_to) rfl
  obtain ⟨fd_P_store, F_P_store⟩ := c.def_ 22 (d := dd_P_store) rfl
  obtain ⟨fd_P_root, F_P_root⟩ := c.def_ 23 (d := dd_P_root) rfl
  obtain ⟨fd_within, F_within⟩ := c.def_ 24 (d := dd_within) rfl
  obtain ⟨fd_opened, F_opened⟩ := c.def_ 25 (d := dd_opened) rfl
  obtain ⟨fd_l_cell_at, F_l_cell_at⟩ := c.def_ 26 (d := dd_l_cell_at) rfl
  obtain ⟨fd_l_whole, F_l_whole⟩ := c.def_ 27 (d := dd_l_whole) rfl
  obtain ⟨fd_l_sign_by, F_l_sign_by⟩ := c.def_ 28 (d := dd_l_sign_by) rfl
  obtain ⟨fd_l_text_by, F_l_text_by⟩ := c.def_ 29 (d := dd_l_text_by) rfl
  obtain ⟨fd_l_next_text, F_l_next_text⟩ := c.def_ 30 (d := dd_l_next_text) rfl
  obtain ⟨fd_l_change_of, F_l_change_of⟩ := c.def_ 31 (d := dd_l_change_of) rfl
  obtain ⟨fd_l_wide_change, F_l_wide_change⟩ := c.def_ 32 (d := dd_l_wide_change) rfl
  obtain ⟨fd_l_names, F_l_names⟩ := c.def_ 33 (d := dd_l_names) rfl
  obtain ⟨fd_l_size, F_l_size⟩ := c.def_ 34 (d := dd_l_size) rfl
  obtain ⟨fd_l_made, F_l_made⟩ := c.def_ 35 (d := dd_l_made) rfl
  obtain ⟨fd_l_rows_of, F_l_rows_of⟩ := c.def_ 36 (d := dd_l_rows_of) rfl
  obtain ⟨fd_l_chain, F_l_chain⟩ := c.def_ 37 (d := dd_l_chain) rfl
  obtain ⟨fd_l_longest, F_l_longest⟩ := c.def_ 38 (d := dd_l_longest) rfl
  obtain ⟨fd_l_kinds, F_l_kinds⟩ := c.def_ 39 (d := dd_l_kinds) rfl
  obtain ⟨fd_l_rows_are, F_l_rows_are⟩ := c.def_ 40 (d := dd_l_rows_are) rfl
  obtain ⟨fd_l_cells, F_l_cells⟩ := c.def_ 41 (d := dd_l_cells) rfl
  obtain ⟨fd_l_far, F_l_far⟩ := c.def_ 42 (d := dd_l_far) rfl
  obtain ⟨fd_l_turned, F_l_turned⟩ := c.def_ 43 (d := dd_l_turned) rfl
  obtain ⟨fd_l_seen, F_l_seen⟩ := c.def_ 44 (d := dd_l_seen) rfl
  obtain ⟨fd_l_held_well, F_l_held_well⟩ := c.def_ 45 (d := dd_l_held_well) rfl
  obtain ⟨fd_l_asked, F_l_asked⟩ := c.def_ 46 (d := dd_l_asked) rfl
  obtain ⟨fd_l_one_more, F_l_one_more⟩ := c.def_ 47 (d := dd_l_one_more) rfl
  obtain ⟨fd_l_root_told, F_l_root_told⟩ := c.def_ 48 (d := dd_l_root_told) rfl
  obtain ⟨fd_l_law, F_l_law⟩ := c.def_ 49 (d := dd_l_law) rfl
  have e := hfa.symm.trans (He.glo_ok X G (c.fact 78 (f := .glo "law") rfl))
  cases e
  have T : TF (adOf K) mg := ⟨by exact He.int_ok X G (c.fact 0 (f := .int "GREATEST" 1000) rfl), by exact He.free_ok X G (c.fact 1 (f := .free "ValueError") rfl), by exact He.free_ok X G (c.fact 2 (f := .free "bool") rfl), by exact He.free_ok X G (c.fact 3 (f := .free "dict") rfl), by exact He.free_ok X G (c.fact 4 (f := .free "int") rfl), by exact He.free_ok X G (c.fact 5 (f := .free "isinstance") rfl), by exact He.free_ok X G (c.fact 6 (f := .free "len") rfl), by exact He.free_ok X G (c.fact 7 (f := .free "list") rfl), by exact He.free_ok X G (c.fact 8 (f := .free "max") rfl), by exact He.free_ok X G (c.fact 9 (f := .free "min") rfl), by exact He.free_ok X G (c.fact 10 (f := .free "range") rfl), by exact He.free_ok X G (c.fact 11 (f := .free "reversed") rfl), by exact He.free_ok X G (c.fact 12 (f := .free "sorted") rfl), by exact He.free_ok X G (c.fact 13 (f := .free "str") rfl), by exact He.free_ok X G (c.fact 14 (f := .free "tuple") rfl), by exact ⟨He.glo_ok X G (c.fact 15 (f := .glo "BadBound") rfl), (He.exc_ok (c.fact 16 (f := .exc "BadBound") rfl)).1, (He.exc_ok (c.fact 16 (f := .exc "BadBound") rfl)).2.1, (He.exc_ok (c.fact 16 (f := .exc "BadBound") rfl)).2.2.1, (He.exc_ok (c.fact 16 (f := .exc "BadBound") rfl)).2.2.2⟩, by exact ⟨He.glo_ok X G (c.fact 17 (f := .glo "BadRows") rfl), (He.exc_ok (c.fact 18 (f := .exc "BadRows") rfl)).1, (He.exc_ok (c.fact 18 (f := .exc "BadRows") rfl)).2.1, (He.exc_ok (c.fact 18 (f := .exc "BadRows") rfl)).2.2.1, (He.exc_ok (c.fact 18 (f := .exc "BadRows") rfl)).2.2.2⟩, by exact ⟨He.glo_ok X G (c.fact 19 (f := .glo "NoFit") rfl), (He.exc_ok (c.fact 20 (f := .exc "NoFit") rfl)).1, (He.exc_ok (c.fact 20 (f := .exc "NoFit") rfl)).2.1, (He.exc_ok (c.fact 20 (f := .exc "NoFit") rfl)).2.2.1, (He.exc_ok (c.fact 20 (f := .exc "NoFit") rfl)).2.2.2⟩, by exact ⟨He.glo_ok X G (c.fact 21 (f := .glo "NoVersion") rfl), (He.exc_ok (c.fact 22 (f := .exc "NoVersion") rfl)).1, (He.exc_ok (c.fact 22 (f := .exc "NoVersion") rfl)).2.1, (He.exc_ok (c.fact 22 (f := .exc "NoVersion") rfl)).2.2.1, (He.exc_ok (c.fact 22 (f := .exc "NoVersion") rfl)).2.2.2⟩, by exact ⟨He.glo_ok X G (c.fact 23 (f := .glo "PackError") rfl), (He.exc_ok (c.fact 24 (f := .exc "PackError") rfl)).1, (He.exc_ok (c.fact 24 (f := .exc "PackError") rfl)).2.1, (He.exc_ok (c.fact 24 (f := .exc "PackError") rfl)).2.2.1, (He.exc_ok (c.fact 24 (f := .exc "PackError") rfl)).2.2.2⟩, by exact ⟨He.glo_ok X G (c.fact 25 (f := .glo "TooFar") rfl), (He.exc_ok (c.fact 26 (f := .exc "TooFar") rfl)).1, (He.exc_ok (c.fact 26 (f := .exc "TooFar") rfl)).2.1, (He.exc_ok (c.fact 26 (f := .exc "TooFar") rfl)).2.2.1, (He.exc_ok (c.fact 26 (f := .exc "TooFar") rfl)).2.2.2⟩, by exact He.glo_ok X G (c.fact 27 (f := .glo "Pack") rfl), by exact He.cls_ok (c.fact 28 (f := .cls "Pack") rfl), by exact He.mkr_ok (c.fact 29 (f := .mkr "Pack") rfl)⟩
  have ok : Okk (adOf K) := okB_ok cx
  have pk : PkOk (adOf K) := ⟨T.cl, He.noat_ok (c.fact 79 (f := .noat "Pack" "bound") rfl), He.noat_ok (c.fact 80 (f := .noat "Pack" "leans") rfl), He.noat_ok (c.fact 81 (f := .noat "Pack" "stock") rfl), He.noat_ok (c.fact 82 (f := .noat "Pack" "coming") rfl)⟩
  have b := FunD.bindsA (ps := ["_law_script"]) F_l_law fun _ _ _ _ _ _ us hl => match us, hl with | [_], _ => rfl
  refine ⟨fd_l_law, fun s v => b s [v] rfl, fun base _ _ => ?_⟩
  have G_done : FnAt P w K mg base "done" 1 a_done (sp_done (adOf K)) _ fd_done := ⟨d_done T  F_done , He.glo_ok X G (c.fact 30 (f := .glo "done") rfl), F_done.kp, FunD.bindsN F_done fun _ _ _ _ _ _ us hl => match us, hl with | [_, _], _ => rfl⟩
  have G_turned : FnAt P w K mg base "turned" 1 a_turned (sp_turned (adOf K)) _ fd_turned := ⟨d_turned T  F_turned , He.glo_ok X G (c.fact 31 (f := .glo "turned") rfl), F_turned.kp, FunD.bindsN F_turned fun _ _ _ _ _ _ us hl => match us, hl with | [_], _ => rfl⟩
  have G_alike_ahead : FnAt P w K mg base "alike_ahead" 1 a_alike_ahead (sp_alike_ahead (adOf K)) _ fd_alike_ahead := ⟨d_alike_ahead T  F_alike_ahead , He.glo_ok X G (c.fact 32 (f := .glo "alike_ahead") rfl), F_alike_ahead.kp, FunD.bindsN F_alike_ahead fun _ _ _ _ _ _ us hl => match us, hl with | [_, _], _ => rfl⟩
  have G_alike_behind : FnAt P w K mg base "alike_behind" 1 a_alike_behind (sp_alike_behind (adOf K)) _ fd_alike_behind := ⟨d_alike_behind T  F_alike_behind , He.glo_ok X G (c.fact 33 (f := .glo "alike_behind") rfl), F_alike_behind.kp, FunD.bindsN F_alike_behind fun _ _ _ _ _ _ us hl => match us, hl with | [_, _, _], _ => rfl⟩
  have G_chain_of : FnAt P w K mg base "chain_of" 1 a_chain_of (sp_chain_of (adOf K)) _ fd_chain_of := ⟨d_chain_of T  F_chain_of , He.glo_ok X G (c.fact 35 (f := .glo "chain_of") rfl), F_chain_of.kp, FunD.bindsN F_chain_of fun _ _ _ _ _ _ us hl => match us, hl with | [_, _], _ => rfl⟩
  have G_sides : FnAt P w K mg base "sides" 1 a_sides (sp_sides (adOf K)) _ fd_sides := ⟨d_sides T  F_sides , He.glo_ok X G (c.fact 37 (f := .glo "sides") rfl), F_sides.kp, FunD.bindsN F_sides fun _ _ _ _ _ _ us hl => match us, hl with | [_], _ => rfl⟩
  have G_is_number : FnAt P w K mg base "is_number" 1 a_is_number (sp_is_number (adOf K)) _ fd_is_number := ⟨d_is_number T  F_is_number , He.glo_ok X G (c.fact 40 (f := .glo "is_number") rfl), F_is_number.kp, FunD.bindsN F_is_number fun _ _ _ _ _ _ us hl => match us, hl with | [_], _ => rfl⟩
  have G_P_numbers : MeAt P w K mg base (adOf K).cPack "numbers" 1 a_P_numbers (sp_P_numbers (adOf K)) _ fd_P_numbers := ⟨d_P_numbers T pk F_P_numbers , He.meth_ok (c.fact 45 (f := .meth "Pack" "numbers") rfl), FunD.bindsN F_P_numbers fun _ _ _ _ _ _ us hl => match us, hl with | [_], _ => rfl⟩
  have G_P_bases : MeAt P w K mg base (adOf K).cPack "bases" 1 a_P_bases (sp_P_bases (adOf K)) _ fd_P_bases := ⟨d_P_bases T pk F_P_bases , He.meth_ok (c.fact 46 (f := .meth "Pack" "bases") rfl), FunD.bindsN F_P_bases fun _ _ _ _ _ _ us hl => match us, hl with | [_], _ => rfl⟩
  have G_P_weight : MeAt P w K mg base (adOf K).cPack "weight" 1 a_P_weight (sp_P_weight (adOf K)) _ fd_P_weight := ⟨d_P_weight T pk F_P_weight , He.meth_ok (c.fact 48 (f := .meth "Pack" "weight") rfl), FunD.bindsN F_P_weight fun _ _ _ _ _ _ us hl => match us, hl with | [_], _ => rfl⟩
  have G_within : FnAt P w K mg base "within" 1 a_within (sp_within (adOf K)) _ fd_within := ⟨d_within T  F_within , He.glo_ok X G (c.fact 53 (f := .glo "within") rfl), F_within.kp, FunD.bindsN F_within fun _ _ _ _ _ _ us hl => match us, hl with | [_, _, _], _ => rfl⟩
  have G_l_cell_at : FnAt P w K mg base "_law_cell_at" 1 a_l_cell_at (sp_l_cell_at (adOf K)) _ fd_l_cell_at := ⟨d_l_cell_at T  F_l_cell_at , He.glo_ok X G (c.fact 55 (f := .glo "_law_cell_at") rfl), F_l_cell_at.kp, FunD.bindsN F_l_cell_at fun _ _ _ _ _ _ us hl => match us, hl with | [_, _], _ => rfl⟩
  have G_l_whole : FnAt P w K mg base "_law_whole" 1 a_l_whole (sp_l_whole (adOf K)) _ fd_l_whole := ⟨d_l_whole T  F_l_whole , He.glo_ok X G (c.fact 56 (f := .glo "_law_whole") rfl), F_l_whole.kp, FunD.bindsN F_l_whole fun _ _ _ _ _ _ us hl => match us, hl with | [_], _ => rfl⟩
  have G_l_sign_by : FnAt P w K mg base "_law_sign_by" 1 a_l_sign_by (sp_l_sign_by (adOf K)) _ fd_l_sign_by := ⟨d_l_sign_by T  F_l_sign_by , He.glo_ok X G (c.fact 57 (f := .glo "_law_sign_by") rfl), F_l_sign_by.kp, FunD.bindsN F_l_sign_by fun _ _ _ _ _ _ us hl => match us, hl with | [_], _ => rfl⟩
  have G_l_change_of : FnAt P w K mg base "_law_change_of" 1 a_l_change_of (sp_l_change_of (adOf K)) _ fd_l_change_of := ⟨d_l_change_of T  F_l_change_of , He.glo_ok X G (c.fact 60 (f := .glo "_law_change_of") rfl), F_l_change_of.kp, FunD.bindsN F_l_change_of fun _ _ _ _ _ _ us hl => match us, hl with | [_, _], _ => rfl⟩
  have G_l_names : FnAt P w K mg base "_law_names" 1 a_l_names (sp_l_names (adOf K)) _ fd_l_names := ⟨d_l_names T  F_l_names , He.glo_ok X G (c.fact 62 (f := .glo "_law_names") rfl), F_l_names.kp, FunD.bindsN F_l_names fun _ _ _ _ _ _ us hl => match us, hl with | [_], _ => rfl⟩
  have G_l_size : FnAt P w K mg base "_law_size" 1 a_l_size (sp_l_size (adOf K)) _ fd_l_size := ⟨d_l_size T  F_l_size , He.glo_ok X G (c.fact 63 (f := .glo "_law_size") rfl), F_l_size.kp, FunD.bindsN F_l_size fun _ _ _ _ _ _ us hl => match us, hl with | [_], _ => rfl⟩
  have G_l_rows_of : FnAt P w K mg base "_law_rows_of" 1 a_l_rows_of (sp_l_rows_of (adOf K)) _ fd_l_rows_of := ⟨d_l_rows_of T  F_l_rows_of , He.glo_ok X G (c.fact 65 (f := .glo "_law_rows_of") rfl), F_l_rows_of.kp, FunD.bindsN F_l_rows_of fun _ _ _ _ _ _ us hl => match us, hl with | [_], _ => rfl⟩
  have G_l_chain : FnAt P w K mg base "_law_chain" 1 a_l_chain (sp_l_chain (adOf K)) _ fd_l_chain := ⟨d_l_chain T  F_l_chain , He.glo_ok X G (c.fact 66 (f := .glo "_law_chain") rfl), F_l_chain.kp, FunD.bindsN F_l_chain fun _ _ _ _ _ _ us hl => match us, hl with | [_, _], _ => rfl⟩
  have G_l_held_well : FnAt P w K mg base "_law_held_well" 1 a_l_held_well (sp_l_held_well (adOf K)) _ fd_l_held_well := ⟨d_l_held_well T  F_l_held_well , He.glo_ok X G (c.fact 74 (f := .glo "_law_held_well") rfl), F_l_held_well.kp, FunD.bindsN F_l_held_well fun _ _ _ _ _ _ us hl => match us, hl with | [_], _ => rfl⟩
  have G_change_of : FnAt P w K mg base "change_of" 2 a_change_of (sp_change_of (adOf K)) _ fd_change_of := ⟨d_change_of T  F_change_of G_alike_ahead G_alike_behind, He.glo_ok X G (c.fact 34 (f := .glo "change_of") rfl), F_change_of.kp, FunD.bindsN F_change_of fun _ _ _ _ _ _ us hl => match us, hl with | [_, _], _ => rfl⟩
  have G_tree_of : FnAt P w K mg base "tree_of" 2 a_tree_of (sp_tree_of (adOf K)) _ fd_tree_of := ⟨d_tree_of T  F_tree_of G_chain_of, He.glo_ok X G (c.fact 36 (f := .glo "tree_of") rfl), F_tree_of.kp, FunD.bindsN F_tree_of fun _ _ _ _ _ _ us hl => match us, hl with | [_, _], _ => rfl⟩
  have G_reach : FnAt P w K mg base "reach" 2 a_reach (sp_reach (adOf K)) _ fd_reach := ⟨d_reach T  F_reach G_sides, He.glo_ok X G (c.fact 38 (f := .glo "reach") rfl), F_reach.kp, FunD.bindsN F_reach fun _ _ _ _ _ _ us hl => match us, hl with | [_, _], _ => rfl⟩
  have G_P_init : MeI P w K mg base (adOf K).cPack 2 a_P_init (sp_P_init (adOf K)) _ fd_P_init := ⟨d_P_init T pk F_P_init G_is_number, FunD.bindsN F_P_init fun _ _ _ _ _ _ us hl => match us, hl with | [_, _], _ => rfl⟩
  have G_P_need : MeAt P w K mg base (adOf K).cPack "need" 2 a_P_need (sp_P_need (adOf K)) _ fd_P_need := ⟨d_P_need T pk F_P_need G_is_number, He.meth_ok (c.fact 41 (f := .meth "Pack" "need") rfl), FunD.bindsN F_P_need fun _ _ _ _ _ _ us hl => match us, hl with | [_, _], _ => rfl⟩
  have G_P_rows : MeAt P w K mg base (adOf K).cPack "rows" 2 a_P_rows (sp_P_rows (adOf K)) _ fd_P_rows := ⟨d_P_rows T pk F_P_rows G_P_numbers, He.meth_ok (c.fact 47 (f := .meth "Pack" "rows") rfl), FunD.bindsN F_P_rows fun _ _ _ _ _ _ us hl => match us, hl with | [_], _ => rfl⟩
  have G_l_text_by : FnAt P w K mg base "_law_text_by" 2 a_l_text_by (sp_l_text_by (adOf K)) _ fd_l_text_by := ⟨d_l_text_by T  F_l_text_by G_l_sign_by, He.glo_ok X G (c.fact 58 (f := .glo "_law_text_by") rfl), F_l_text_by.kp, FunD.bindsN F_l_text_by fun _ _ _ _ _ _ us hl => match us, hl with | [_, _], _ => rfl⟩
  have G_l_wide_change : FnAt P w K mg base "_law_wide_change" 2 a_l_wide_change (sp_l_wide_change (adOf K)) _ fd_l_wide_change := ⟨d_l_wide_change T  F_l_wide_change G_l_change_of, He.glo_ok X G (c.fact 61 (f := .glo "_law_wide_change") rfl), F_l_wide_change.kp, FunD.bindsN F_l_wide_change fun _ _ _ _ _ _ us hl => match us, hl with | [_, _, _], _ => rfl⟩
  have G_l_longest : FnAt P w K mg base "_law_longest" 2 a_l_longest (sp_l_longest (adOf K)) _ fd_l_longest := ⟨d_l_longest T  F_l_longest G_l_chain, He.glo_ok X G (c.fact 67 (f := .glo "_law_longest") rfl), F_l_longest.kp, FunD.bindsN F_l_longest fun _ _ _ _ _ _ us hl => match us, hl with | [_], _ => rfl⟩
  have G_l_kinds : FnAt P w K mg base "_law_kinds" 2 a_l_kinds (sp_l_kinds (adOf K)) _ fd_l_kinds := ⟨d_l_kinds T  F_l_kinds G_l_whole, He.glo_ok X G (c.fact 68 (f := .glo "_law_kinds") rfl), F_l_kinds.kp, FunD.bindsN F_l_kinds fun _ _ _ _ _ _ us hl => match us, hl with | [_], _ => rfl⟩
  have G_l_cells : FnAt P w K mg base "_law_cells" 2 a_l_cells (sp_l_cells (adOf K)) _ fd_l_cells := ⟨d_l_cells T  F_l_cells G_l_cell_at, He.glo_ok X G (c.fact 70 (f := .glo "_law_cells") rfl), F_l_cells.kp, FunD.bindsN F_l_cells fun _ _ _ _ _ _ us hl => match us, hl with | [_, _, _], _ => rfl⟩
  have G_l_far : FnAt P w K mg base "_law_far" 2 a_l_far (sp_l_far (adOf K)) _ fd_l_far := ⟨d_l_far T  F_l_far G_l_chain, He.glo_ok X G (c.fact 71 (f := .glo "_law_far") rfl), F_l_far.kp, FunD.bindsN F_l_far fun _ _ _ _ _ _ us hl => match us, hl with | [_, _], _ => rfl⟩
  have G_l_turned : FnAt P w K mg base "_law_turned" 2 a_l_turned (sp_l_turned (adOf K)) _ fd_l_turned := ⟨d_l_turned T  F_l_turned G_l_chain, He.glo_ok X G (c.fact 72 (f := .glo "_law_turned") rfl), F_l_turned.kp, FunD.bindsN F_l_turned fun _ _ _ _ _ _ us hl => match us, hl with | [_, _, _], _ => rfl⟩
  have G_middle : FnAt P w K mg base "middle" 3 a_middle (sp_middle (adOf K)) _ fd_middle := ⟨d_middle T  F_middle G_reach G_tree_of, He.glo_ok X G (c.fact 39 (f := .glo "middle") rfl), F_middle.kp, FunD.bindsN F_middle fun _ _ _ _ _ _ us hl => match us, hl with | [_, _], _ => rfl⟩
  have G_P_read : MeAt P w K mg base (adOf K).cPack "read" 3 a_P_read (sp_P_read (adOf K)) _ fd_P_read := ⟨d_P_read T pk F_P_read G_P_need G_chain_of G_done, He.meth_ok (c.fact 42 (f := .meth "Pack" "read") rfl), FunD.bindsN F_P_read fun _ _ _ _ _ _ us hl => match us, hl with | [_, _], _ => rfl⟩
  have G_P_base : MeAt P w K mg base (adOf K).cPack "base" 3 a_P_base (sp_P_base (adOf K)) _ fd_P_base := ⟨d_P_base T pk F_P_base G_P_need, He.meth_ok (c.fact 43 (f := .meth "Pack" "base") rfl), FunD.bindsN F_P_base fun _ _ _ _ _ _ us hl => match us, hl with | [_, _], _ => rfl⟩
  have G_P_chain : MeAt P w K mg base (adOf K).cPack "chain" 3 a_P_chain (sp_P_chain (adOf K)) _ fd_P_chain := ⟨d_P_chain T pk F_P_chain G_P_need G_chain_of, He.meth_ok (c.fact 44 (f := .meth "Pack" "chain") rfl), FunD.bindsN F_P_chain fun _ _ _ _ _ _ us hl => match us, hl with | [_, _], _ => rfl⟩
  have G_l_next_text : FnAt P w K mg base "_law_next_text" 3 a_l_next_text (sp_l_next_text (adOf K)) _ fd_l_next_text := ⟨d_l_next_text T  F_l_next_text G_l_text_by G_l_sign_by, He.glo_ok X G (c.fact 59 (f := .glo "_law_next_text") rfl), F_l_next_text.kp, FunD.bindsN F_l_next_text fun _ _ _ _ _ _ us hl => match us, hl with | [_, _], _ => rfl⟩
  have G_l_rows_are : FnAt P w K mg base "_law_rows_are" 3 a_l_rows_are (sp_l_rows_are (adOf K)) _ fd_l_rows_are := ⟨d_l_rows_are T  F_l_rows_are G_l_rows_of G_l_kinds, He.glo_ok X G (c.fact 69 (f := .glo "_law_rows_are") rfl), F_l_rows_are.kp, FunD.bindsN F_l_rows_are fun _ _ _ _ _ _ us hl => match us, hl with | [_, _], _ => rfl⟩
  have G_P_lay : MeAt P w K mg base (adOf K).cPack "lay" 4 a_P_lay (sp_P_lay (adOf K)) _ fd_P_lay := ⟨d_P_lay T pk F_P_lay G_change_of G_P_read, He.meth_ok (c.fact 49 (f := .meth "Pack" "lay") rfl), FunD.bindsN F_P_lay fun _ _ _ _ _ _ us hl => match us, hl with | [_, _, _, _], _ => rfl⟩
  have G_opened : FnAt P w K mg base "opened" 4 a_opened (sp_opened (adOf K)) _ fd_opened := ⟨d_opened T pk F_opened G_P_init G_within G_P_read, He.glo_ok X G (c.fact 54 (f := .glo "opened") rfl), F_opened.kp, FunD.bindsN F_opened fun _ _ _ _ _ _ us hl => match us, hl with | [_, _], _ => rfl⟩
  have G_l_made : FnAt P w K mg base "_law_made" 4 a_l_made (sp_l_made (adOf K)) _ fd_l_made := ⟨d_l_made T  F_l_made G_l_names G_l_text_by G_l_next_text G_l_size G_l_wide_change, He.glo_ok X G (c.fact 64 (f := .glo "_law_made") rfl), F_l_made.kp, FunD.bindsN F_l_made fun _ _ _ _ _ _ us hl => match us, hl with | [_, _], _ => rfl⟩
  have G_l_seen : FnAt P w K mg base "_law_seen" 4 a_l_seen (sp_l_seen (adOf K)) _ fd_l_seen := ⟨d_l_seen T pk F_l_seen G_l_rows_are G_l_chain G_P_rows G_P_numbers G_P_base G_P_chain G_P_bases, He.glo_ok X G (c.fact 73 (f := .glo "_law_seen") rfl), F_l_seen.kp, FunD.bindsN F_l_seen fun _ _ _ _ _ _ us hl => match us, hl with | [_, _, _], _ => rfl⟩
  have G_l_asked : FnAt P w K mg base "_law_asked" 4 a_l_asked (sp_l_asked (adOf K)) _ fd_l_asked := ⟨d_l_asked T pk F_l_asked G_l_rows_are G_P_rows G_P_numbers G_P_bases G_P_chain G_P_read G_P_base G_l_chain G_P_weight, He.glo_ok X G (c.fact 75 (f := .glo "_law_asked") rfl), F_l_asked.kp, FunD.bindsN F_l_asked fun _ _ _ _ _ _ us hl => match us, hl with | [_, _, _, _, _], _ => rfl⟩
  have G_P_turn_to : MeAt P w K mg base (adOf K).cPack "turn_to" 5 a_P_turn_to (sp_P_turn_to (adOf K)) _ fd_P_turn_to := ⟨d_P_turn_to T pk F_P_turn_to G_P_read G_chain_of G_P_lay G_turned, He.meth_ok (c.fact 50 (f := .meth "Pack" "turn_to") rfl), FunD.bindsN F_P_turn_to fun _ _ _ _ _ _ us hl => match us, hl with | [_, _], _ => rfl⟩
  have G_P_store : MeAt P w K mg base (adOf K).cPack "store" 6 a_P_store (sp_P_store (adOf K)) _ fd_P_store := ⟨d_P_store T pk F_P_store G_P_lay G_P_need G_middle G_reach G_P_turn_to G_chain_of, He.meth_ok (c.fact 51 (f := .meth "Pack" "store") rfl), FunD.bindsN F_P_store fun _ _ _ _ _ _ us hl => match us, hl with | [_, _, _], _ => rfl⟩
  have G_P_root : MeAt P w K mg base (adOf K).cPack "root" 6 a_P_root (sp_P_root (adOf K)) _ fd_P_root := ⟨d_P_root T pk F_P_root G_P_need G_P_turn_to G_reach, He.meth_ok (c.fact 52 (f := .meth "Pack" "root") rfl), FunD.bindsN F_P_root fun _ _ _ _ _ _ us hl => match us, hl with | [_, _], _ => rfl⟩
  have G_l_one_more : FnAt P w K mg base "_law_one_more" 7 a_l_one_more (sp_l_one_more (adOf K)) _ fd_l_one_more := ⟨d_l_one_more T pk F_l_one_more G_l_next_text G_l_change_of G_P_store G_l_chain, He.glo_ok X G (c.fact 76 (f := .glo "_law_one_more") rfl), F_l_one_more.kp, FunD.bindsN F_l_one_more fun _ _ _ _ _ _ us hl => match us, hl with | [_, _, _, _, _, _], _ => rfl⟩
  have G_l_root_told : FnAt P w K mg base "_law_root_told" 7 a_l_root_told (sp_l_root_told (adOf K)) _ fd_l_root_told := ⟨d_l_root_told T pk ok F_l_root_told G_P_root, He.glo_ok X G (c.fact 77 (f := .glo "_law_root_told") rfl), F_l_root_told.kp, FunD.bindsN F_l_root_told fun _ _ _ _ _ _ us hl => match us, hl with | [_, _, _], _ => rfl⟩
  exact d_l_law T pk ok F_l_law G_l_made G_l_rows_of G_opened G_l_cells G_l_cell_at G_l_rows_are G_l_longest G_l_far G_l_turned G_P_read G_l_held_well G_P_store G_P_rows G_l_one_more G_l_asked G_l_root_told G_l_seen
end Pk
open PySem PySem.W PySem.Calls PyProof.Rows
set_option maxHeartbeats 0 in
theorem PySem.Challenge.cw_packdelta_k10_rooted_holds : PySem.Challenge.rw_packdelta_k10_rooted.Holds := by
  w_on; o_law
  refine HandSHeadRun.head_any (r := OpenLaw.row PySem.Challenge.rw_packdelta_k10_rooted) (q := view (OpenLaw.row PySem.Challenge.rw_packdelta_k10_rooted).prog [52]) (H := Pk.hk) (ob := Pk.ob) (M := 4000) (loose := Pk.loose)
    (d := HandSHeadRun.topDef (OpenLaw.row PySem.Challenge.rw_packdelta_k10_rooted).prog 52) (kwd := []) Pk.ob_eq (by kernel_rfl) (fun s => by kernel_rfl) Pk.run (by kernel_rfl) (by kernel_rfl) (by kernel_rfl) (by rfl)
    (by first | assumption | decide +kernel) (by decide +kernel) ⟨rfl, rfl, rfl, rfl, rfl, by decide +kernel⟩ ?hw ?hc
  case hw => w_witness2
  case hc =>
    refine L2.walk_ofE (l := PySem.Challenge.rw_packdelta_k10_rooted) (n := 63) (k := 8) (x := "_law_script") (CX := L2.CX0) rfl (by decide) (by kernel_rfl) ⟨rfl, by decide, by decide⟩ ?F ?cx
    case cx => exact fun _ _ _ _ z => z
    intro w mg fa h Y G hmg0
    obtain ⟨K, KX, c, cx⟩ := Y
    have hmg : mg ("law" : PySem.Str) = some (.ref fa) := by
      have e : (HandSHeadRun.topDef (OpenLaw.row PySem.Challenge.rw_packdelta_k10_rooted).prog 52).name = ("law" : PySem.Str) := by kernel_rfl
      rw [← e]
      exact hmg0
    obtain ⟨fd, hb, hF⟩ := Pk.facts (P := (PySem.Challenge.rw_packdelta_k10_rooted).prog) (w := w) KX G hmg c cx
    exact ⟨K, fd, Pk.sp_l_law (Pk.adOf K), KX, hb, fun H a ns hl _ hS => Pk.end_law a ns hl hS (fun _ => rfl), hF⟩

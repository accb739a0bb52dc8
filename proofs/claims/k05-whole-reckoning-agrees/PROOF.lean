import PyProof.Rows.All
import Wide.All
import OpenK.AllK
import Wide.FinOn
import HandS.ForList
import HandS.Wide
import HandS.Codes
import PySem.Challenge.RW_hideworth_k05_whole_reckoning_agrees
set_option Elab.async false
set_option linter.all false
set_option maxRecDepth 100000
set_option maxHeartbeats 4000000
set_option exponentiation.threshold 10000
/-! The reckoning of fractions in plain Lean: a fraction in lowest terms is a Rat (num, den). -/
namespace HW

/-- by what ratio divides top and bottom -/
def byOf (t b : Int) : Int := if b < 0 then 0 - (Int.gcd t b : Int) else (Int.gcd t b : Int)

theorem gcd_pos {t b : Int} (hb : b ≠ 0) : 0 < Int.gcd t b := Int.gcd_pos_of_ne_zero_right t hb

theorem byOf_ne {t b : Int} (hb : b ≠ 0) : byOf t b ≠ 0 := by
  have h := gcd_pos (t := t) hb
  unfold byOf
  split <;> omega

theorem gcd_le {t b : Int} (hb : b ≠ 0) : Int.gcd t b ≤ b.natAbs :=
  Nat.le_of_dvd (by omega) (Nat.gcd_dvd_right _ _)

theorem byOf_abs (t b : Int) : (byOf t b).natAbs = Int.gcd t b := by
  unfold byOf
  split <;> omega

theorem fdiv_negR (t g : Int) : t.fdiv (0 - g) = (-t).fdiv g := by
  have h := Int.neg_fdiv_neg (-t) g
  rw [Int.neg_neg] at h
  rw [Int.zero_sub]
  exact h

theorem ratio_num {t b : Int} (hb : b ≠ 0) : t.fdiv (byOf t b) = (Rat.divInt t b).num := by
  rw [Rat.num_divInt, Int.gcd_comm b t]
  unfold byOf
  by_cases hn : b < 0
  · rw [if_pos hn, Int.sign_eq_neg_one_of_neg hn, fdiv_negR, Int.neg_one_mul]
    exact Int.fdiv_eq_ediv_of_nonneg _ (by omega)
  · rw [if_neg hn, Int.sign_eq_one_of_pos (by omega), Int.one_mul]
    exact Int.fdiv_eq_ediv_of_nonneg _ (by omega)

theorem ratio_den {t b : Int} (hb : b ≠ 0) : b.fdiv (byOf t b) = ((Rat.divInt t b).den : Int) := by
  rw [Rat.den_divInt, if_neg hb, Int.gcd_comm b t]
  unfold byOf
  by_cases hn : b < 0
  · rw [if_pos hn, fdiv_negR, Int.fdiv_eq_ediv_of_nonneg _ (by omega), Int.natCast_ediv]
    have e : ((b.natAbs : Nat) : Int) = -b := by omega
    rw [e]
  · rw [if_neg hn, Int.fdiv_eq_ediv_of_nonneg _ (by omega), Int.natCast_ediv]
    have e : ((b.natAbs : Nat) : Int) = b := by omega
    rw [e]

/-- both numbers of a fraction lie below 2 ^ n -/
structure Sz (n : Nat) (p : Rat) : Prop where
  num : p.num.natAbs < 2 ^ n
  den : p.den < 2 ^ n

theorem Sz.mono {n m : Nat} {p : Rat} (h : Sz n p) (hm : n ≤ m) : Sz m p :=
  ⟨Nat.lt_of_lt_of_le h.num (Nat.pow_le_pow_right (by decide) hm), Nat.lt_of_lt_of_le h.den (Nat.pow_le_pow_right (by decide) hm)⟩

theorem natAbs_div_le (t : Int) (g : Nat) : (t / (g : Int)).natAbs ≤ t.natAbs := Int.natAbs_ediv_le_natAbs t g

theorem sz_div {n : Nat} {t b : Int} (hb : b ≠ 0) (ht : t.natAbs < 2 ^ n) (hn : b.natAbs < 2 ^ n) : Sz n (Rat.divInt t b) := by
  constructor
  · rw [Rat.num_divInt]
    refine Nat.lt_of_le_of_lt (natAbs_div_le _ _) ?_
    rw [Int.natAbs_mul]
    have hs : b.sign.natAbs = 1 := by
      rw [Int.natAbs_sign, if_neg hb]
    rw [hs, Nat.one_mul]
    exact ht
  · rw [Rat.den_divInt, if_neg hb]
    exact Nat.lt_of_le_of_lt (Nat.div_le_self _ _) hn

theorem den_ne (p : Rat) : ((p.den : Nat) : Int) ≠ 0 := by
  have := p.den_pos
  omega

theorem den_mul_ne (p q : Rat) : (p.den : Int) * (q.den : Int) ≠ 0 := Int.mul_ne_zero (den_ne p) (den_ne q)

theorem plus_eq (p q : Rat) : Rat.divInt (p.num * q.den + q.num * p.den) ((p.den : Int) * q.den) = p + q := by
  have h := Rat.divInt_add_divInt p.num q.num (den_ne p) (den_ne q)
  rw [Rat.num_divInt_den, Rat.num_divInt_den] at h
  rw [h]

theorem minus_eq (p q : Rat) : Rat.divInt (p.num * q.den - q.num * p.den) ((p.den : Int) * q.den) = p - q := by
  have h := Rat.divInt_sub_divInt p.num q.num (den_ne p) (den_ne q)
  rw [Rat.num_divInt_den, Rat.num_divInt_den] at h
  rw [h]

theorem times_eq (p q : Rat) : Rat.divInt (p.num * q.num) ((p.den : Int) * q.den) = p * q := by
  have h := Rat.divInt_mul_divInt p.num q.num (d₁ := (p.den : Int)) (d₂ := (q.den : Int))
  rw [Rat.num_divInt_den, Rat.num_divInt_den] at h
  rw [h]

theorem over_eq (p q : Rat) : Rat.divInt (p.num * q.den) ((p.den : Int) * q.num) = p / q := by
  have h := Rat.divInt_mul_divInt p.num (q.den : Int) (d₁ := (p.den : Int)) (d₂ := q.num)
  rw [Rat.num_divInt_den, ← Rat.inv_def] at h
  rw [Rat.div_def, h]

theorem num_ne {q : Rat} (h : q ≠ 0) : q.num ≠ 0 := fun e => h (Rat.num_eq_zero.mp e)

theorem prod_lt {i j : Int} {a b : Nat} (ha : i.natAbs < 2 ^ a) (hb : j.natAbs < 2 ^ b) : (i * j).natAbs < 2 ^ (a + b) := by
  rw [Nat.pow_add, Int.natAbs_mul]
  exact Nat.mul_lt_mul'' ha hb

theorem den_lt {n : Nat} {p : Rat} (h : Sz n p) : ((p.den : Int)).natAbs < 2 ^ n := by
  rw [Int.natAbs_natCast]
  exact h.den

theorem sum_lt {i j : Int} {a : Nat} (ha : i.natAbs < 2 ^ a) (hb : j.natAbs < 2 ^ a) : (i + j).natAbs < 2 ^ (a + 1) := by
  rw [Nat.pow_succ]
  omega

theorem diff_lt {i j : Int} {a : Nat} (ha : i.natAbs < 2 ^ a) (hb : j.natAbs < 2 ^ a) : (i - j).natAbs < 2 ^ (a + 1) := by
  rw [Nat.pow_succ]
  omega

theorem pow_more {x n m : Nat} (h : x < 2 ^ n) (hm : n ≤ m) : x < 2 ^ m := Nat.lt_of_lt_of_le h (Nat.pow_le_pow_right (by decide) hm)

theorem sz_plus {n m : Nat} {p q : Rat} (hp : Sz n p) (hq : Sz m q) : Sz (n + m + 1) (p + q) := by
  rw [← plus_eq]
  refine sz_div (den_mul_ne p q) (sum_lt (prod_lt hp.num (den_lt hq)) ?_) (pow_more (prod_lt (den_lt hp) (den_lt hq)) (Nat.le_succ _))
  rw [Nat.add_comm n m]
  exact prod_lt hq.num (den_lt hp)

theorem sz_minus {n m : Nat} {p q : Rat} (hp : Sz n p) (hq : Sz m q) : Sz (n + m + 1) (p - q) := by
  rw [← minus_eq]
  refine sz_div (den_mul_ne p q) (diff_lt (prod_lt hp.num (den_lt hq)) ?_) (pow_more (prod_lt (den_lt hp) (den_lt hq)) (Nat.le_succ _))
  rw [Nat.add_comm n m]
  exact prod_lt hq.num (den_lt hp)

theorem sz_times {n m : Nat} {p q : Rat} (hp : Sz n p) (hq : Sz m q) : Sz (n + m) (p * q) := by
  rw [← times_eq]
  exact sz_div (den_mul_ne p q) (prod_lt hp.num hq.num) (prod_lt (den_lt hp) (den_lt hq))

theorem sz_over {n m : Nat} {p q : Rat} (h : q ≠ 0) (hp : Sz n p) (hq : Sz m q) : Sz (n + m) (p / q) := by
  rw [← over_eq]
  exact sz_div (Int.mul_ne_zero (den_ne p) (num_ne h)) (prod_lt hp.num (den_lt hq)) (prod_lt (den_lt hp) hq.num)

/-! ### below -/
theorem below_eq (p q : Rat) : decide (p.num * (q.den : Int) < q.num * (p.den : Int)) = decide (p < q) := by
  rw [decide_eq_decide]
  exact (Rat.lt_iff p q).symm

theorem lt_plus (p q c : Rat) : decide (p + c < q + c) = decide (p < q) := by
  rw [decide_eq_decide]
  exact Rat.add_lt_add_right

theorem lt_times {c : Rat} (p q : Rat) (h : 0 < c) : decide (p * c < q * c) = decide (p < q) := by
  rw [decide_eq_decide]
  exact Rat.mul_lt_mul_right h

theorem just_one (p q : Rat) : ([decide (p < q), decide (p = q), decide (q < p)] : List Bool).count true = 1 := by
  by_cases h1 : p < q
  · have h2 : p ≠ q := Rat.ne_of_lt h1
    have h3 : ¬ q < p := Rat.not_lt.mpr (Rat.le_of_lt h1)
    rw [decide_eq_true h1, decide_eq_false h2, decide_eq_false h3]
    decide
  · by_cases h2 : p = q
    · subst h2
      rw [decide_eq_false h1, decide_eq_true rfl]
      decide
    · have h3 : q < p := Rat.lt_of_le_of_ne (Rat.not_lt.mp h1) (fun e => h2 e.symm)
      rw [decide_eq_false h1, decide_eq_false h2, decide_eq_true h3]
      decide

/-! ### the greatest divisor, turn by turn -/
theorem gcd_turn (x y : Nat) : Nat.gcd y (x % y) = Nat.gcd x y := by
  rw [Nat.gcd_comm x y, Nat.gcd_rec y x, Nat.gcd_comm]

theorem fmod_nat (x y : Nat) : Int.fmod (x : Int) (y : Int) = ((x % y : Nat) : Int) := by
  rw [Int.fmod_eq_emod_of_nonneg (x : Int) (by omega : (0 : Int) ≤ (y : Int))]
  exact (Int.natCast_emod x y).symm

theorem abs_nat (n : Int) : (if n < 0 then -n else n) = ((n.natAbs : Nat) : Int) := by
  split <;> omega

end HW

/-! What the layer lacks: a floor by a great divisor of any sign; how often a truth stands in a list of truths. -/
namespace HW
open PySem PySem.Spec PyProof.Rows L2

/-- a floor by a divisor of any sign below 2 ^ 9000 -/
def CDivZ (_ j : Int) : Prop := j ≠ 0 ∧ j.natAbs < 2 ^ 9000
theorem CDivZ.log {i j : Int} (h : CDivZ i j) : j.natAbs.log2 < 9000 := (Nat.log2_lt (by have := h.1; omega)).mpr h.2

section
variable {X : Cx}
theorem op_fdivZ : OpR X (binaryOp .FloorDiv) (rI CDivZ fun i j => .int (i.fdiv j)) :=
  opI fun _ _ _ _ _ _ _ hc q => floordiv_int hc.1 q (.inl (PyProof.noPylong_of_log2 hc.log))
end

/-! ### [truths].count(truth) -/
def isB (k : Bool) : Value → Bool
  | .bool b => b == k
  | _ => false
theorem isB_at {A : Around} {s : Shared} {k : Bool} : ∀ {bs : List Bool} {us : List Value}, Vals (bs.map V.bl) us → ∀ y ∈ us, SeqAt.EqAt A s y (.bool k) (isB k y)
  | [], _, .nil => fun y hy => by cases hy
  | b :: _, _, .cons r t => fun y hy => by
    have e : _ = Value.bool b := r
    rcases List.mem_cons.mp hy with z | z
    · rw [z, e]
      exact SeqAt.EqAt.bool_bool b k
    · exact isB_at t y z
theorem isB_count {k : Bool} : ∀ {bs : List Bool} {us : List Value}, Vals (bs.map V.bl) us → us.countP (isB k) = bs.count k
  | [], _, .nil => rfl
  | b :: _, _, .cons r t => by
    have e : _ = Value.bool b := r
    have ih := isB_count (k := k) t
    rw [List.countP_cons, List.count_cons, ih, e]
    rfl
def rCntB (K : PySem.W.Frag) : V → List V → Hp → VK → Prop := fun x xs H Q => ∃ (p : Addr) (bs : List Bool) (k : Bool), x = .ref p ∧ xs = [.bl k] ∧ SqL K H p (bs.map V.bl) ∧ Q (.int (bs.count k : Nat)) H
section
variable {X : Cx}
theorem mt_bcount : MtR X "list.count" (rCntB X.K) := by
  intro pins sh st H o args vo vargs Q inv ro rargs want
  obtain ⟨at', bs, k, rfl, rfl, isList, goal⟩ := want
  cases ro
  obtain ⟨one, rfl, r1⟩ := rargs.one
  cases r1
  obtain ⟨items, rv, ⟨⟨kind, own, body, slots⟩, m, here, hkind, _, hbody⟩, _⟩ := inv.list isList
  simp only at hkind hbody
  subst hkind hbody
  have meets := SeqAt.list_countAt at' items.toArray m own slots (.bool k) (isB k)
  refine call_meets PySem.F.slot_list_count ⟨_, here, rfl⟩ PySem.F.entry_list_count (PySem.F.args_list_count_2 _ _) meets ⟨here, fun y hy => isB_at rv y (by simpa using hy), ?_⟩
  rw [show items.toArray.toList.countP (isB k) = bs.count k from isB_count rv]
  exact ⟨.int (bs.count k : Nat), H, inv.tok _, ⟨sh.toks, rfl⟩, goal⟩
end

/-! ### a fraction in memory -/
/-- at a stands the fraction p: the tuple of its two numbers -/
def FrAt (H : Hp) (a : Addr) (p : Rat) : Prop := H a = some (.tup [.int p.num, .int (p.den : Int)])
theorem FrAt.same {H H' : Hp} {a : Addr} {p : Rat} (h : FrAt H a p) (s : Same H H') : FrAt H' a p := s _ _ h
theorem FrAt.cast {H : Hp} {a : Addr} {p q : Rat} (h : FrAt H a p) (e : p = q) : FrAt H a q := e ▸ h
theorem FrAt.sq {K : PySem.W.Frag} {H : Hp} {a : Addr} {p : Rat} (h : FrAt H a p) : SqT K H a [.int p.num, .int (p.den : Int)] := SqT.of h
theorem same_new {H : Hp} {a : Addr} {o : HO} (h : H a = none) : Same H (upd H a o) := fun b x e => by
  rw [upd_ne (ne_of_none e h)]
  exact e
/-- as data -/
def frD (p : Rat) : PyData := .tuple [.int p.num, .int (p.den : Int)]
theorem frD_shaped (p : Rat) : SeqAt.shaped (frD p) = true := by
  simp [SeqAt.shaped, frD, PyData.canLay0, PyData.canLayAll0, PyData.depth, PyData.depthAll]
theorem frD_eqv (p q : Rat) : PyData.eqv (frD p) (frD q) = decide (p = q) := by
  have e1 : PyData.eqv (frD p) (frD q) = ((p.num == q.num) && ((p.den : Int) == (q.den : Int))) := by
    simp [frD, PyData.eqv, PyData.eqvAll]
  rw [e1]
  by_cases h : p = q
  · subst h
    simp
  · rw [decide_eq_false h]
    by_cases h1 : p.num = q.num
    · have h2 : ¬ ((p.den : Int) = (q.den : Int)) := fun z => h (Rat.ext h1 (Int.natCast_inj.mp z))
      rw [beq_eq_false_iff_ne.mpr h2, Bool.and_false]
    · rw [beq_eq_false_iff_ne.mpr h1, Bool.false_and]
theorem FrAt.dp {K : PySem.W.Frag} {H : Hp} {a : Addr} {p : Rat} (h : FrAt H a p) : Dp K H (.ref a) (frD p) :=
  .tup h.sq (.cons (.int _) (.cons (.int _) .nil))
/-- x != y of two that are one fraction: no -/
theorem ne_same {K : PySem.W.Frag} {H : Hp} {a b : Addr} {p q : Rat} {Q : VK} (h1 : FrAt H a p) (h2 : FrAt H b q) (e : p = q) (k : Q (.bl false) H) : rNeD K (.ref a) (.ref b) H Q := by
  refine ⟨frD p, frD q, h1.dp, h2.dp, frD_shaped p, frD_shaped q, ?_⟩
  rw [frD_eqv, decide_eq_true e]
  exact k
/-- x == y of two fractions -/
theorem eq_frs {K : PySem.W.Frag} {H : Hp} {a b : Addr} {p q : Rat} {Q : VK} (h1 : FrAt H a p) (h2 : FrAt H b q) (k : Q (.bl (decide (p = q))) H) : rEqD K (.ref a) (.ref b) H Q := by
  refine ⟨frD p, frD q, h1.dp, h2.dp, frD_shaped p, frD_shaped q, ?_⟩
  rw [frD_eqv]
  exact k
theorem at0 {p : Rat} : atI [V.int p.num, V.int (p.den : Int)] 0 = some (.int p.num) := atI_nat (j := 0) rfl
theorem at1 {p : Rat} : atI [V.int p.num, V.int (p.den : Int)] 1 = some (.int (p.den : Int)) := atI_nat (j := 1) rfl
end HW

/-! The program's own defs: divisor, ratio, plus, minus, times, over, below. -/
namespace HW
open PySem PySem.Spec PyProof.Rows L2

def topAt (i : Nat) : Stmt := PySem.Challenge.pw_hideworth_k05_whole_reckoning_agrees.main.body.getD i (.Pass ⟨0, 0, 0, 0⟩)
abbrev sDiv : Stmt := topAt 4
abbrev sRat : Stmt := topAt 5
abbrev sPlus : Stmt := topAt 6
abbrev sMinus : Stmt := topAt 7
abbrev sTimes : Stmt := topAt 8
abbrev sOver : Stmt := topAt 9
abbrev sBelow : Stmt := topAt 10

theorem scDiv : FnScope ["one", "other"] ["one", "other"] (defScope sDiv) := ⟨rfl, rfl, rfl, by decide +kernel, rfl, by decide +kernel, by decide +kernel⟩
theorem scRat : FnScope ["top", "bottom", "by"] ["top", "bottom"] (defScope sRat) := ⟨rfl, rfl, rfl, by decide +kernel, rfl, by decide +kernel, by decide +kernel⟩
theorem scPlus : FnScope ["one", "other"] ["one", "other"] (defScope sPlus) := ⟨rfl, rfl, rfl, by decide +kernel, rfl, by decide +kernel, by decide +kernel⟩
theorem scMinus : FnScope ["one", "other"] ["one", "other"] (defScope sMinus) := ⟨rfl, rfl, rfl, by decide +kernel, rfl, by decide +kernel, by decide +kernel⟩
theorem scTimes : FnScope ["one", "other"] ["one", "other"] (defScope sTimes) := ⟨rfl, rfl, rfl, by decide +kernel, rfl, by decide +kernel, by decide +kernel⟩
theorem scOver : FnScope ["one", "other"] ["one", "other"] (defScope sOver) := ⟨rfl, rfl, rfl, by decide +kernel, rfl, by decide +kernel, by decide +kernel⟩
theorem scBelow : FnScope ["one", "other"] ["one", "other"] (defScope sBelow) := ⟨rfl, rfl, rfl, by decide +kernel, rfl, by decide +kernel, by decide +kernel⟩

/-! ### the promises -/
def spDiv : Sp := fun vs H Q _ => ∃ t b : Int, vs = [.int t, .int b] ∧ Q (.int (Int.gcd t b : Nat)) H
def spRat : Sp := fun vs H Q _ => ∃ t b : Int, vs = [.int t, .int b] ∧ b ≠ 0 ∧ b.natAbs < 2 ^ 9000 ∧
  ∀ (H' : Hp) (r : Addr), Same H H' → FrAt H' r (Rat.divInt t b) → Q (.ref r) H'
/-- an operation of two fractions of fewer than 4,000 bits -/
def spOp (g : Rat → Rat → Rat) (ok : Rat → Prop) : Sp := fun vs H Q _ => ∃ (a b : Addr) (p q : Rat), vs = [.ref a, .ref b] ∧ FrAt H a p ∧ FrAt H b q ∧ Sz 4000 p ∧ Sz 4000 q ∧ ok q ∧
  ∀ (H' : Hp) (r : Addr), Same H H' → FrAt H' r (g p q) → Q (.ref r) H'
def spBelow : Sp := fun vs H Q _ => ∃ (a b : Addr) (p q : Rat), vs = [.ref a, .ref b] ∧ FrAt H a p ∧ FrAt H b q ∧ Sz 4000 p ∧ Sz 4000 q ∧ Q (.bl (decide (p < q))) H
abbrev yes : Rat → Prop := fun _ => True
abbrev not0 : Rat → Prop := fun q => q ≠ 0

theorem wm {i j : Int} (h1 : i.natAbs < 2 ^ 4000) (h2 : j.natAbs < 2 ^ 4000) : CMulW i j := wide_mul h1 h2 (by decide) (by decide) (by decide)
theorem den9000 {p q : Rat} (h1 : Sz 4000 p) (h2 : Sz 4000 q) : ((p.den : Int) * q.den).natAbs < 2 ^ 9000 :=
  pow_more (prod_lt (den_lt h1) (den_lt h2)) (by decide)
theorem den9000' {p q : Rat} (h1 : Sz 4000 p) (h2 : Sz 4000 q) : ((p.den : Int) * q.num).natAbs < 2 ^ 9000 :=
  pow_more (prod_lt (den_lt h1) h2.num) (by decide)

section
variable {P : Program} {w : World} {K : PySem.W.Frag} {mg : Str → Option Value} {base : Heap}

theorem ok_div {f : Addr} {fd : FuncData} (F : Fun K "divisor" "divisor" sDiv f fd) (ma : mg "abs" = none) : FnOk P w K mg base CX0 1 f fd ["one", "other"] spDiv := by
  refine F.ok scDiv (fun vs H Q E h => ?_) (fun cdv A outer s H vs Q E hr h => ?_)
  · obtain ⟨t, b, rfl, _⟩ := h
    rfl
  · obtain ⟨t, b, rfl, q⟩ := h
    refine ⟨_, pss_cons (ps_set (i := 0) scDiv.nd rfl (.inl rfl) (pe_callB call_abs (by rfl) ma (by decide +kernel) (pa_cons (pv 0) pa_nil)))
      (pss_cons (ps_set (i := 1) scDiv.nd rfl (.inl rfl) (pe_callB call_abs (by rfl) ma (by decide +kernel) (pa_cons (pv 1) pa_nil)))
      (pss_cons (ps_while PassesOwn.never (pt_cmpR op_ne (pv 1) pe_int (nomark _))
        (pss_one (ps_par (i := 0) (j := 1) rfl scDiv.nd rfl rfl (by decide) rfl rfl (pa_cons (pv 1) (pa_cons (pe_op op_modN (pv 0) (pv 1)) pa_nil)) (by rfl))))
      (pss_one (ps_ret (pv 0))))), ?_⟩
    refine ⟨_, rfl, t, rfl, _, rfl, b, rfl, ?_⟩
    refine while_by (fun σ H1 => H1 = H ∧ ∃ x y : Nat, σ = [some (.int (x : Int)), some (.int (y : Int))] ∧ Nat.gcd x y = Int.gcd t b)
      (fun σ _ => match σ with | [_, some (.int y)] => y.toNat | _ => 0) ⟨rfl, t.natAbs, b.natAbs, ?_, rfl⟩ ?_ ?_
    · rw [abs_nat, abs_nat]
      rfl
    · rintro σ H1 ⟨rfl, x, y, rfl, hg⟩
      refine ⟨_, rfl, rfl, _, rfl, ?_⟩
      by_cases hy : y = 0
      · subst hy
        rw [Nat.gcd_zero_right] at hg
        refine iteNS rfl ?_
        rw [hg]
        exact ⟨_, rfl, q⟩
      · have hv : ¬ (V.int (y : Int) = V.int 0) := fun z => hy (by have := V.int.inj z; omega)
        rw [decide_eq_false hv]
        refine iteT ?_
        refine ⟨_, rfl, _, rfl, _, rfl, _, _, rfl, rfl, (by omega), _, _, rfl, ?_⟩
        refine ⟨⟨rfl, y, x % y, ?_, ?_⟩, ?_⟩
        · show [some (V.int (y : Int)), some (V.int (Int.fmod (x : Int) (y : Int)))] = _
          rw [fmod_nat]
        · rw [gcd_turn]
          exact hg
        · show (Int.fmod (x : Int) (y : Int)).toNat < ((y : Nat) : Int).toNat
          rw [fmod_nat, Int.toNat_natCast, Int.toNat_natCast]
          exact Nat.mod_lt _ (by omega)
    · rintro σ H1 Q1 Q2 hQ ⟨v, hv, hs, k, hk, z⟩
      exact ⟨v, hv, hs, k, hk, hQ _ _ z⟩

theorem ok_rat {f fD : Addr} {fd fdD : FuncData} (F : Fun K "ratio" "ratio" sRat f fd) (FD : Fun K "divisor" "divisor" sDiv fD fdD) (bD : Binds K fdD ["one", "other"] []) (gD : mg "divisor" = some (.ref fD)) (ma : mg "abs" = none) :
    FnOk P w K mg base CX0 2 f fd ["top", "bottom"] spRat := by
  have GD : FnOk P w K mg base CX0 1 fD fdD ["one", "other"] spDiv := ok_div FD ma
  refine F.ok scRat (fun vs H Q E h => ?_) (fun cdv A outer s H vs Q E hr h => ?_)
  · obtain ⟨t, b, rfl, _⟩ := h
    rfl
  · obtain ⟨t, b, rfl, hb, hlt, q⟩ := h
    refine ⟨_, pss_cons (ps_if (pt_cmpR op_eq (pv 1) pe_int (nomark _)) (pss_one ps_never) pss_nil)
      (pss_cons (ps_set (i := 2) scRat.nd rfl (.inl rfl) (pe_call GD hr (by rfl) gD FD.kp bD .nil pass0 (pa_cons (pv 0) (pa_cons (pv 1) pa_nil))))
      (pss_cons (ps_if (pt_cmpR op_lt (pv 1) pe_int (nomark _)) (pss_one (ps_set (i := 2) scRat.nd rfl (.inl rfl) (pe_op op_sub pe_int (pv 2)))) pss_nil)
      (pss_one (ps_ret (pe_tup (pa_cons (pe_op op_fdivZ (pv 0) (pv 2)) (pa_cons (pe_op op_fdivZ (pv 1) (pv 2)) pa_nil))))))), ?_⟩
    have hv : ¬ (V.int b = V.int 0) := fun z => hb (V.int.inj z)
    have hby : (byOf t b).natAbs < 2 ^ 9000 := by
      rw [byOf_abs]
      exact Nat.lt_of_le_of_lt (gcd_le hb) hlt
    refine ⟨_, rfl, rfl, _, rfl, ?_⟩
    rw [decide_eq_false hv]
    refine iteF ?_
    refine ⟨_, rfl, _, rfl, t, b, rfl, ?_⟩
    refine ⟨_, rfl, _, _, rfl, rfl, _, rfl, ?_⟩
    have fin : ∀ (r : Addr), H r = none → Q (.ref r) (upd H r (.tup [.int (t.fdiv (byOf t b)), .int (b.fdiv (byOf t b))])) := fun r hn => by
      refine q _ r (same_new hn) ?_
      show upd H r _ r = _
      rw [upd_same, ratio_num hb, ratio_den hb]
    refine ite2 (fun hn => ?_) (fun hn => ?_)
    · have hn' : b < 0 := of_decide_eq_true hn
      have e : byOf t b = 0 - (Int.gcd t b : Int) := if_pos hn'
      rw [e] at fin hby
      refine ⟨_, rfl, _, _, rfl, rfl, ?_⟩
      refine ⟨_, rfl, _, rfl, _, _, rfl, rfl, ⟨?_, hby⟩, _, rfl, _, rfl, _, _, rfl, rfl, ⟨?_, hby⟩, (by show 2 ≤ sizeLine; decide), fin⟩
      · rw [← e]
        exact byOf_ne hb
      · rw [← e]
        exact byOf_ne hb
    · have hn' : ¬ b < 0 := fun z => hn (decide_eq_true z)
      have e : byOf t b = (Int.gcd t b : Int) := if_neg hn'
      rw [e] at fin hby
      refine ⟨_, rfl, _, rfl, _, _, rfl, rfl, ⟨?_, hby⟩, _, rfl, _, rfl, _, _, rfl, rfl, ⟨?_, hby⟩, (by show 2 ≤ sizeLine; decide), fin⟩
      · rw [← e]
        exact byOf_ne hb
      · rw [← e]
        exact byOf_ne hb

/-- ratio as it stands -/
structure RatX (P : Program) (w : World) (K : PySem.W.Frag) (mg : Str → Option Value) (base : Heap) (fR : Addr) (fdR : FuncData) : Prop where
  ok : FnOk P w K mg base CX0 2 fR fdR ["top", "bottom"] spRat
  g : mg "ratio" = some (.ref fR)
  kp : PySem.W.keepIn K (.ref fR) = true
  b : Binds K fdR ["top", "bottom"] []

theorem ok_plus {f fR : Addr} {fd fdR : FuncData} (F : Fun K "plus" "plus" sPlus f fd) (R : RatX P w K mg base fR fdR) : FnOk P w K mg base CX0 3 f fd ["one", "other"] (spOp (· + ·) yes) := by
  refine F.ok scPlus (fun vs H Q E h => ?_) (fun cdv A outer s H vs Q E hr h => ?_)
  · obtain ⟨a, b, p, q, rfl, _⟩ := h
    rfl
  · obtain ⟨a, b, p, q, rfl, ha, hb, sp, sq, _, k⟩ := h
    refine ⟨_, pss_one (ps_ret (pe_call R.ok hr (by rfl) R.g R.kp R.b .nil pass0 (pa_cons
      (pe_op op_add (pe_op op_mulW (pe_ix ix_tup (pv 0) pe_int (fun _ _ => rfl)) (pe_ix ix_tup (pv 1) pe_int (fun _ _ => rfl)))
        (pe_op op_mulW (pe_ix ix_tup (pv 1) pe_int (fun _ _ => rfl)) (pe_ix ix_tup (pv 0) pe_int (fun _ _ => rfl))))
      (pa_cons (pe_op op_mulW (pe_ix ix_tup (pv 0) pe_int (fun _ _ => rfl)) (pe_ix ix_tup (pv 1) pe_int (fun _ _ => rfl))) pa_nil)))), ?_⟩
    refine ⟨_, rfl, a, _, 0, _, rfl, rfl, ha.sq, at0, _, rfl, b, _, 1, _, rfl, rfl, hb.sq, at1, _, _, rfl, rfl, wm sp.num (den_lt sq), ?_⟩
    refine ⟨_, rfl, b, _, 0, _, rfl, rfl, hb.sq, at0, _, rfl, a, _, 1, _, rfl, rfl, ha.sq, at1, _, _, rfl, rfl, wm sq.num (den_lt sp), _, _, rfl, rfl, ?_⟩
    refine ⟨_, rfl, a, _, 1, _, rfl, rfl, ha.sq, at1, _, rfl, b, _, 1, _, rfl, rfl, hb.sq, at1, _, _, rfl, rfl, wm (den_lt sp) (den_lt sq), ?_⟩
    refine ⟨_, _, rfl, den_mul_ne p q, den9000 sp sq, fun H' r hs hf => ?_⟩
    rw [plus_eq] at hf
    exact k H' r hs hf

theorem ok_minus {f fR : Addr} {fd fdR : FuncData} (F : Fun K "minus" "minus" sMinus f fd) (R : RatX P w K mg base fR fdR) : FnOk P w K mg base CX0 3 f fd ["one", "other"] (spOp (· - ·) yes) := by
  refine F.ok scMinus (fun vs H Q E h => ?_) (fun cdv A outer s H vs Q E hr h => ?_)
  · obtain ⟨a, b, p, q, rfl, _⟩ := h
    rfl
  · obtain ⟨a, b, p, q, rfl, ha, hb, sp, sq, _, k⟩ := h
    refine ⟨_, pss_one (ps_ret (pe_call R.ok hr (by rfl) R.g R.kp R.b .nil pass0 (pa_cons
      (pe_op op_sub (pe_op op_mulW (pe_ix ix_tup (pv 0) pe_int (fun _ _ => rfl)) (pe_ix ix_tup (pv 1) pe_int (fun _ _ => rfl)))
        (pe_op op_mulW (pe_ix ix_tup (pv 1) pe_int (fun _ _ => rfl)) (pe_ix ix_tup (pv 0) pe_int (fun _ _ => rfl))))
      (pa_cons (pe_op op_mulW (pe_ix ix_tup (pv 0) pe_int (fun _ _ => rfl)) (pe_ix ix_tup (pv 1) pe_int (fun _ _ => rfl))) pa_nil)))), ?_⟩
    refine ⟨_, rfl, a, _, 0, _, rfl, rfl, ha.sq, at0, _, rfl, b, _, 1, _, rfl, rfl, hb.sq, at1, _, _, rfl, rfl, wm sp.num (den_lt sq), ?_⟩
    refine ⟨_, rfl, b, _, 0, _, rfl, rfl, hb.sq, at0, _, rfl, a, _, 1, _, rfl, rfl, ha.sq, at1, _, _, rfl, rfl, wm sq.num (den_lt sp), _, _, rfl, rfl, ?_⟩
    refine ⟨_, rfl, a, _, 1, _, rfl, rfl, ha.sq, at1, _, rfl, b, _, 1, _, rfl, rfl, hb.sq, at1, _, _, rfl, rfl, wm (den_lt sp) (den_lt sq), ?_⟩
    refine ⟨_, _, rfl, den_mul_ne p q, den9000 sp sq, fun H' r hs hf => ?_⟩
    rw [minus_eq] at hf
    exact k H' r hs hf

theorem ok_times {f fR : Addr} {fd fdR : FuncData} (F : Fun K "times" "times" sTimes f fd) (R : RatX P w K mg base fR fdR) : FnOk P w K mg base CX0 3 f fd ["one", "other"] (spOp (· * ·) yes) := by
  refine F.ok scTimes (fun vs H Q E h => ?_) (fun cdv A outer s H vs Q E hr h => ?_)
  · obtain ⟨a, b, p, q, rfl, _⟩ := h
    rfl
  · obtain ⟨a, b, p, q, rfl, ha, hb, sp, sq, _, k⟩ := h
    refine ⟨_, pss_one (ps_ret (pe_call R.ok hr (by rfl) R.g R.kp R.b .nil pass0 (pa_cons
      (pe_op op_mulW (pe_ix ix_tup (pv 0) pe_int (fun _ _ => rfl)) (pe_ix ix_tup (pv 1) pe_int (fun _ _ => rfl)))
      (pa_cons (pe_op op_mulW (pe_ix ix_tup (pv 0) pe_int (fun _ _ => rfl)) (pe_ix ix_tup (pv 1) pe_int (fun _ _ => rfl))) pa_nil)))), ?_⟩
    refine ⟨_, rfl, a, _, 0, _, rfl, rfl, ha.sq, at0, _, rfl, b, _, 0, _, rfl, rfl, hb.sq, at0, _, _, rfl, rfl, wm sp.num sq.num, ?_⟩
    refine ⟨_, rfl, a, _, 1, _, rfl, rfl, ha.sq, at1, _, rfl, b, _, 1, _, rfl, rfl, hb.sq, at1, _, _, rfl, rfl, wm (den_lt sp) (den_lt sq), ?_⟩
    refine ⟨_, _, rfl, den_mul_ne p q, den9000 sp sq, fun H' r hs hf => ?_⟩
    rw [times_eq] at hf
    exact k H' r hs hf

theorem ok_over {f fR : Addr} {fd fdR : FuncData} (F : Fun K "over" "over" sOver f fd) (R : RatX P w K mg base fR fdR) : FnOk P w K mg base CX0 3 f fd ["one", "other"] (spOp (· / ·) not0) := by
  refine F.ok scOver (fun vs H Q E h => ?_) (fun cdv A outer s H vs Q E hr h => ?_)
  · obtain ⟨a, b, p, q, rfl, _⟩ := h
    rfl
  · obtain ⟨a, b, p, q, rfl, ha, hb, sp, sq, hq, k⟩ := h
    refine ⟨_, pss_one (ps_ret (pe_call R.ok hr (by rfl) R.g R.kp R.b .nil pass0 (pa_cons
      (pe_op op_mulW (pe_ix ix_tup (pv 0) pe_int (fun _ _ => rfl)) (pe_ix ix_tup (pv 1) pe_int (fun _ _ => rfl)))
      (pa_cons (pe_op op_mulW (pe_ix ix_tup (pv 0) pe_int (fun _ _ => rfl)) (pe_ix ix_tup (pv 1) pe_int (fun _ _ => rfl))) pa_nil)))), ?_⟩
    refine ⟨_, rfl, a, _, 0, _, rfl, rfl, ha.sq, at0, _, rfl, b, _, 1, _, rfl, rfl, hb.sq, at1, _, _, rfl, rfl, wm sp.num (den_lt sq), ?_⟩
    refine ⟨_, rfl, a, _, 1, _, rfl, rfl, ha.sq, at1, _, rfl, b, _, 0, _, rfl, rfl, hb.sq, at0, _, _, rfl, rfl, wm (den_lt sp) sq.num, ?_⟩
    refine ⟨_, _, rfl, Int.mul_ne_zero (den_ne p) (num_ne hq), den9000' sp sq, fun H' r hs hf => ?_⟩
    rw [over_eq] at hf
    exact k H' r hs hf

theorem ok_below {f : Addr} {fd : FuncData} (F : Fun K "below" "below" sBelow f fd) : FnOk P w K mg base CX0 1 f fd ["one", "other"] spBelow := by
  refine F.ok scBelow (fun vs H Q E h => ?_) (fun cdv A outer s H vs Q E hr h => ?_)
  · obtain ⟨a, b, p, q, rfl, _⟩ := h
    rfl
  · obtain ⟨a, b, p, q, rfl, ha, hb, sp, sq, k⟩ := h
    refine ⟨_, pss_one (ps_ret (pe_cmpR op_lt
      (pe_op op_mulW (pe_ix ix_tup (pv 0) pe_int (fun _ _ => rfl)) (pe_ix ix_tup (pv 1) pe_int (fun _ _ => rfl)))
      (pe_op op_mulW (pe_ix ix_tup (pv 1) pe_int (fun _ _ => rfl)) (pe_ix ix_tup (pv 0) pe_int (fun _ _ => rfl))) (nomark _))), ?_⟩
    refine ⟨_, rfl, a, _, 0, _, rfl, rfl, ha.sq, at0, _, rfl, b, _, 1, _, rfl, rfl, hb.sq, at1, _, _, rfl, rfl, wm sp.num (den_lt sq), ?_⟩
    refine ⟨_, rfl, b, _, 0, _, rfl, rfl, hb.sq, at0, _, rfl, a, _, 1, _, rfl, rfl, ha.sq, at1, _, _, rfl, rfl, wm sq.num (den_lt sp), _, _, rfl, rfl, ?_⟩
    show Q (.bl (decide (p.num * (q.den : Int) < q.num * (p.den : Int)))) H
    rw [below_eq]
    exact k
end
end HW

/-! The law's own defs: the draws, what is asked of three fractions, the law. -/
namespace HW
open PySem PySem.Spec PyProof.Rows L2

abbrev sMixed : Stmt := topAt 12
abbrev sNum : Stmt := topAt 13
abbrev sAgr : Stmt := topAt 14
abbrev sLaw : Stmt := topAt 15
theorem scMixed : FnScope ["_law_script", "_law_k", "_law_at", "_law_cell", "_law_j", "_law_number_here"] ["_law_script", "_law_k"] (defScope sMixed) := ⟨rfl, rfl, rfl, by decide +kernel, rfl, by decide +kernel, by decide +kernel⟩
theorem scNum : FnScope ["_law_script", "_law_k", "_law_number_here", "_law_great", "_law_ten", "_law_j", "_law_size"] ["_law_script", "_law_k"] (defScope sNum) := ⟨rfl, rfl, rfl, by decide +kernel, rfl, by decide +kernel, by decide +kernel⟩
theorem scAgr : FnScope ["_law_a", "_law_b", "_law_c"] ["_law_a", "_law_b", "_law_c"] (defScope sAgr) := ⟨rfl, rfl, rfl, by decide +kernel, rfl, by decide +kernel, by decide +kernel⟩
theorem scLaw : FnScope ["_law_script", "_law_k", "_law_three", "_law_j", "_law_bottom"] ["_law_script"] (defScope sLaw) := ⟨rfl, rfl, rfl, by decide +kernel, rfl, by decide +kernel, by decide +kernel⟩

/-! ### a draw -/
/-- a draw: a whole number from 0 on, below 2147483587 -/
def spMixed (K : PySem.W.Frag) : Sp := fun vs H Q _ => ∃ (a : Addr) (ns : List Int) (k : Int), vs = [.ref a, .int k] ∧ SqL K H a (ns.map V.int) ∧ ns.length ≤ 63 ∧ 0 ≤ k ∧ k ≤ 1000 ∧
  ∀ n : Int, 0 ≤ n → n < 2147483587 → Q (.int n) H
theorem ints_at {ns : List Int} {i : Int} (h0 : 0 ≤ i) (h1 : i < (ns.length : Int)) : ∃ z, atI (ns.map V.int) i = some (V.int z) := by
  have hj : i.toNat < ns.length := by omega
  refine ⟨ns[i.toNat], ?_⟩
  refine at_of (j := i.toNat) (by omega) ?_
  rw [List.getElem?_map, List.getElem?_eq_getElem hj]
  rfl
theorem cpow18 : CPow 10 18 := ⟨by decide, by decide, by decide⟩
theorem cpow30 : CPow 10 30 := ⟨by decide, by decide, by decide⟩
theorem sq_lt {n : Int} (h0 : 0 ≤ n) (h : n < 2 ^ 64) : -(2 ^ 64) < n ∧ n < (2 : Int) ^ 64 := ⟨by omega, h⟩

section
variable {P : Program} {w : World} {K : PySem.W.Frag} {mg : Str → Option Value} {base : Heap}

theorem ok_mixed {f : Addr} {fd : FuncData} (F : Fun K "_law_mixed" "_law_mixed" sMixed f fd) (ml : mg "len" = none) (mr : mg "range" = none) (mm : mg "min" = none) :
    FnOk P w K mg base CX0 1 f fd ["_law_script", "_law_k"] (spMixed K) := by
  refine F.ok scMixed (fun vs H Q E h => ?_) (fun cdv A outer s H vs Q E hr h => ?_)
  · obtain ⟨a, ns, k, rfl, _⟩ := h
    rfl
  · obtain ⟨a, ns, k, rfl, hS, hlen, hk0, hk1, q⟩ := h
    refine ⟨_, pss_cons (ps_set (i := 2) scMixed.nd rfl (.inl rfl) (pe_op op_mod (pe_op op_fdiv (pv 1) pe_int) pe_int))
      (C8.pss_cut (ps_if (PW.pt (pw_and (pt_cmpR op_lt (pv 2) (pe_callB call_len_seq (by rfl) ml PySem.boot_len (pa_cons (pv 0) pa_nil)) (nomark _))
          (pw_and1 (pt_cmpR op_ge (pe_ix ix_list (pv 0) (pv 2) (fun _ _ => rfl)) (pe_op op_pow pe_int pe_int) (nomark _)))))
        (pss_cons (ps_set (i := 3) scMixed.nd rfl (.inl rfl) (pe_op op_fdivW (pe_ix ix_list (pv 0) (pv 2) (fun _ _ => rfl)) (pe_op op_pow pe_int pe_int)))
        (pss_cons (ps_for PassesOwn.never rfl (pi_range1 (by rfl) mr (pa_cons (pe_op op_mod (pv 1) pe_int) pa_nil)) (pg_name (i := 4) scMixed.nd rfl (.inl rfl))
          (pss_one (ps_set (i := 3) scMixed.nd rfl (.inl rfl) (pe_op op_fdivW (pv 3) pe_int))))
        (pss_one (ps_if (pt_cmpR op_gt (pv 3) pe_int (nomark _)) (pss_one (ps_ret (pe_op op_mod (pv 3) pe_int))) pss_nil)))) pss_nil)
      (pss_cons (ps_set (i := 3) scMixed.nd rfl (.inl rfl) pe_int)
      (C8.pss_cut (ps_if (pt_cmpR op_gt (pe_callB call_len_seq (by rfl) ml PySem.boot_len (pa_cons (pv 0) pa_nil)) pe_int (nomark _))
        (pss_one (ps_set (i := 3) scMixed.nd rfl (.inl rfl) (pe_ix ix_list (pv 0) (pe_op op_mod (pv 1) (pe_callB (call_min2 rfl) (by rfl) mm boot_min
          (pa_cons pe_int (pa_cons (pe_callB call_len_seq (by rfl) ml PySem.boot_len (pa_cons (pv 0) pa_nil)) pa_nil)))) (fun _ _ => rfl)))) pss_nil)
      (pss_cons (ps_set (i := 5) scMixed.nd rfl (.inl rfl) (pe_op op_add (pe_op op_mod (pv 3) (pe_op op_pow pe_int pe_int)) (pe_op op_mul pe_int (pe_op op_add (pv 1) pe_int))))
      (pss_cons (ps_set (i := 5) scMixed.nd rfl (.inl rfl) (pe_op op_add (pe_op op_mod (pe_op op_mul (pv 5) (pv 5)) pe_int) (pe_op op_mul pe_int (pv 1))))
      (pss_one (ps_ret (pe_op op_mod (pe_op op_mul (pv 5) (pv 5)) pe_int)))))))), ?_⟩
    have hat0 : 0 ≤ k / 8 % 63 := Int.emod_nonneg _ (by decide)
    -- at = k // 8 % 63
    refine ⟨_, rfl, _, _, rfl, rfl, ⟨by decide, by decide⟩, _, _, rfl, rfl, (by show (0 : Int) < 63; decide), ?_⟩
    -- behind the first if
    refine ⟨fun σ H' => H' = H ∧ ∃ y3 y4, σ = [some (.ref a), some (.int k), some (.int (k / 8 % 63)), y3, y4, none], ?_, ?_⟩
    · refine ⟨_, rfl, .ref a, rfl, a, _, rfl, .inl hS, _, _, rfl, rfl, _, rfl, ?_⟩
      refine ite2 (fun h1 => ?_) (fun h1 => ?_)
      · have h1' : k / 8 % 63 < (ns.length : Int) := by
          have z := of_decide_eq_true h1
          rw [List.length_map] at z
          exact z
        obtain ⟨z, hz⟩ := ints_at hat0 h1'
        refine ⟨.ref a, rfl, _, rfl, a, _, _, _, rfl, rfl, hS, hz, 10, 18, rfl, rfl, cpow18, _, _, rfl, rfl, _, rfl, ?_⟩
        refine ite2 (fun h2 => ?_) (fun h2 => ?_)
        · refine ⟨.ref a, rfl, _, rfl, a, _, _, _, rfl, rfl, hS, hz, 10, 18, rfl, rfl, cpow18, _, _, rfl, rfl, wide_div (b := 64) (by decide) (by decide) (by decide) (by decide), ?_⟩
          refine ⟨_, rfl, _, _, rfl, rfl, (by show (0 : Int) < 8; decide), _, rfl, ?_, ?_, ?_⟩
          · have := Int.emod_nonneg k (b := 8) (by decide)
            show -(2 ^ 62) ≤ k % 8
            omega
          · have := Int.emod_lt_of_pos k (b := 8) (by decide)
            show k % 8 < 2 ^ 62
            omega
          refine for_range (lo := 0) (fun i σ H' => H' = H ∧ ∃ c y4, σ = [some (.ref a), some (.int k), some (.int (k / 8 % 63)), some (.int c), y4, none]) ⟨rfl, _, none, rfl⟩ ?_ ?_
          · rintro i σ H' hi ⟨rfl, c, y4, rfl⟩
            refine ⟨_, rfl, _, _, rfl, rfl, wide_div (b := 64) (by decide) (by decide) (by decide) (by decide), ?_⟩
            exact ⟨rfl, _, _, rfl⟩
          · rintro σ H' ⟨rfl, c, y4, rfl⟩
            refine ⟨_, rfl, _, _, rfl, rfl, _, rfl, ?_⟩
            refine ite2 (fun h3 => ?_) (fun h3 => ?_)
            · refine ⟨_, rfl, _, _, rfl, rfl, (by show (0 : Int) < 2147483587; decide), ?_⟩
              exact q _ (Int.emod_nonneg _ (by decide)) (Int.emod_lt_of_pos _ (by decide))
            · exact ⟨rfl, _, _, rfl⟩
        · exact ⟨rfl, _, _, rfl⟩
      · exact ⟨rfl, _, _, rfl⟩
    · rintro σ H' ⟨rfl, y3, y4, rfl⟩
      -- behind the second if
      refine ⟨fun σ H1 => H1 = H' ∧ ∃ (c : Int) (y4 : Option V), σ = [some (.ref a), some (.int k), some (.int (k / 8 % 63)), some (.int c), y4, none], ?_, ?_⟩
      · refine ⟨.ref a, rfl, a, _, rfl, .inl hS, _, _, rfl, rfl, _, rfl, ?_⟩
        refine ite2 (fun h1 => ?_) (fun h1 => ?_)
        · have h1' : (0 : Int) < (ns.length : Int) := by
            have z := of_decide_eq_true h1
            rw [List.length_map] at z
            exact z
          have hm : (0 : Int) < (if (((ns.map V.int).length : Nat) : Int) < 63 then (((ns.map V.int).length : Nat) : Int) else 63) := by
            rw [List.length_map]
            split <;> omega
          have hm2 : (if (((ns.map V.int).length : Nat) : Int) < 63 then (((ns.map V.int).length : Nat) : Int) else 63) ≤ (ns.length : Int) := by
            rw [List.length_map]
            split <;> omega
          obtain ⟨z, hz⟩ := ints_at (ns := ns) (Int.emod_nonneg k (by omega : (if (((ns.map V.int).length : Nat) : Int) < 63 then (((ns.map V.int).length : Nat) : Int) else 63) ≠ 0)) (Int.lt_of_lt_of_le (Int.emod_lt_of_pos k hm) hm2)
          refine ⟨.ref a, rfl, _, rfl, .ref a, rfl, a, _, rfl, .inl hS, 63, _, rfl, _, _, rfl, rfl, hm, a, _, _, _, rfl, rfl, hS, hz, ?_⟩
          exact ⟨rfl, _, _, rfl⟩
        · exact ⟨rfl, _, _, rfl⟩
      · rintro σ H1 ⟨rfl, c, y5, rfl⟩
        have b1 : 0 ≤ c % 10 ^ 18 := Int.emod_nonneg _ (by decide)
        have b2 : c % 10 ^ 18 < 10 ^ 18 := Int.emod_lt_of_pos _ (by decide)
        have b3 : 0 ≤ c % 10 ^ 18 + 48271 * (k + 1) := by omega
        have b4 : c % 10 ^ 18 + 48271 * (k + 1) < 2 ^ 64 := by omega
        refine ⟨_, rfl, 10, 18, rfl, rfl, cpow18, _, _, rfl, rfl, (by show (0 : Int) < 10 ^ 18; decide), _, rfl, _, _, rfl, rfl, _, _, rfl, rfl, .inl ⟨by decide, by decide⟩, _, _, rfl, rfl, ?_⟩
        refine ⟨_, rfl, _, rfl, _, _, rfl, rfl, .inl (sq_lt b3 b4), _, _, rfl, rfl, (by show (0 : Int) < 2147483629; decide), _, rfl, _, _, rfl, rfl, .inl ⟨by decide, by decide⟩, _, _, rfl, rfl, ?_⟩
        have c1 := Int.emod_nonneg ((c % 10 ^ 18 + 48271 * (k + 1)) * (c % 10 ^ 18 + 48271 * (k + 1))) (b := 2147483629) (by decide)
        have c2 := Int.emod_lt_of_pos ((c % 10 ^ 18 + 48271 * (k + 1)) * (c % 10 ^ 18 + 48271 * (k + 1))) (b := 2147483629) (by decide)
        refine ⟨_, rfl, _, rfl, _, _, rfl, rfl, .inl (sq_lt (n := (c % 10 ^ 18 + 48271 * (k + 1)) * (c % 10 ^ 18 + 48271 * (k + 1)) % 2147483629 + 69621 * k) (by omega) (by omega)), _, _, rfl, rfl, (by show (0 : Int) < 2147483587; decide), ?_⟩
        exact q _ (Int.emod_nonneg _ (by decide)) (Int.emod_lt_of_pos _ (by decide))

/-! ### a number of at most thirty figures -/
def spNum (K : PySem.W.Frag) : Sp := fun vs H Q _ => ∃ (a : Addr) (ns : List Int) (k : Int), vs = [.ref a, .int k] ∧ SqL K H a (ns.map V.int) ∧ ns.length ≤ 63 ∧ 0 ≤ k ∧ k ≤ 500 ∧
  ∀ (n : Int) (H' : Hp), n.natAbs < 2 ^ 100 → Same H H' → Q (.int n) H'
theorem pow_le30 {i : Nat} (h : i ≤ 30) : (10 : Int) ^ i ≤ 10 ^ 30 := by
  have e := Nat.pow_le_pow_right (n := 10) (by decide) h
  have e2 : ((10 ^ i : Nat) : Int) ≤ ((10 ^ 30 : Nat) : Int) := by exact_mod_cast e
  rw [Int.natCast_pow, Int.natCast_pow] at e2
  exact e2
/-- an item of four -/
theorem four_at {x y z u : Int} {i : Int} (h0 : 0 ≤ i) (h1 : i < 4) : ∃ v, atI [V.int x, V.int y, V.int z, V.int u] i = some (V.int v) ∧ (v = x ∨ v = y ∨ v = z ∨ v = u) := by
  rcases (by omega : i = 0 ∨ i = 1 ∨ i = 2 ∨ i = 3) with e | e | e | e <;> subst e
  · exact ⟨x, atI_nat (j := 0) rfl, .inl rfl⟩
  · exact ⟨y, atI_nat (j := 1) rfl, .inr (.inl rfl)⟩
  · exact ⟨z, atI_nat (j := 2) rfl, .inr (.inr (.inl rfl))⟩
  · exact ⟨u, atI_nat (j := 3) rfl, .inr (.inr (.inr rfl))⟩
theorem two_at {x y : Int} {i : Int} (h0 : 0 ≤ i) (h1 : i < 2) : ∃ v, atI [V.int x, V.int y] i = some (V.int v) ∧ (v = x ∨ v = y) := by
  rcases (by omega : i = 0 ∨ i = 1) with e | e <;> subst e
  · exact ⟨x, atI_nat (j := 0) rfl, .inl rfl⟩
  · exact ⟨y, atI_nat (j := 1) rfl, .inr rfl⟩

theorem ok_num {f fM : Addr} {fd fdM : FuncData} (F : Fun K "_law_number" "_law_number" sNum f fd) (FM : Fun K "_law_mixed" "_law_mixed" sMixed fM fdM) (bM : Binds K fdM ["_law_script", "_law_k"] []) (gM : mg "_law_mixed" = some (.ref fM))
    (ml : mg "len" = none) (mr : mg "range" = none) (mm : mg "min" = none) : FnOk P w K mg base CX0 2 f fd ["_law_script", "_law_k"] (spNum K) := by
  have GM : FnOk P w K mg base CX0 1 fM fdM ["_law_script", "_law_k"] (spMixed K) := ok_mixed FM ml mr mm
  refine F.ok scNum (fun vs H Q E h => ?_) (fun cdv A outer s H vs Q E hr h => ?_)
  · obtain ⟨a, ns, k, rfl, _⟩ := h
    rfl
  · obtain ⟨a, ns, k, rfl, hS, hlen, hk0, hk1, q⟩ := h
    refine ⟨_, pss_cons (ps_set (i := 2) scNum.nd rfl (.inl rfl) (pe_call GM hr (by rfl) gM FM.kp bM .nil pass0 (pa_cons (pv 0) (pa_cons (pv 1) pa_nil))))
      (pss_cons (ps_set (i := 3) scNum.nd rfl (.inl rfl) (pe_op op_add
        (pe_op op_mul (pe_op op_mul (pe_call GM hr (by rfl) gM FM.kp bM .nil pass0 (pa_cons (pv 0) (pa_cons (pe_op op_add (pv 1) pe_int) pa_nil))) pe_int) pe_int)
        (pe_call GM hr (by rfl) gM FM.kp bM .nil pass0 (pa_cons (pv 0) (pa_cons (pe_op op_add (pv 1) pe_int) pa_nil)))))
      (pss_cons (ps_set (i := 4) scNum.nd rfl (.inl rfl) pe_int)
      (pss_cons (ps_for PassesOwn.never rfl (pi_range1 (by rfl) mr (pa_cons (pe_op op_mod (pe_op op_fdiv (pv 2) pe_int) pe_int) pa_nil)) (pg_name (i := 5) scNum.nd rfl (.inl rfl))
        (pss_one (ps_set (i := 4) scNum.nd rfl (.inl rfl) (pe_op op_mul pe_int (pv 4)))))
      (pss_cons (ps_set (i := 6) scNum.nd rfl (.inl rfl) (pe_ix ix_list (pe_lst (pa_cons (pe_op op_mod (pe_op op_fdiv (pv 2) pe_int) pe_int) (pa_cons (pe_op op_mod (pe_op op_fdiv (pv 2) pe_int) pe_int)
          (pa_cons (pe_op op_mod (pv 3) (pe_op op_pow pe_int pe_int)) (pa_cons (pv 4) pa_nil))))) (pe_op op_mod (pv 2) pe_int) (fun _ _ => rfl)))
      (pss_one (ps_ret (pe_op op_mul (pv 6) (pe_ix ix_list (pe_lst (pa_cons pe_int (pa_cons (pe_un un_neg pe_int) pa_nil))) (pe_op op_mod (pe_op op_fdiv (pv 2) pe_int) pe_int) (fun _ _ => rfl))))))))), ?_⟩
    -- the first draw n
    refine ⟨_, rfl, _, rfl, a, ns, k, rfl, hS, hlen, hk0, by omega, fun n n0 n1 => ?_⟩
    -- the great one
    refine ⟨_, rfl, _, rfl, _, _, rfl, rfl, a, ns, k + 200, rfl, hS, hlen, by omega, by omega, fun m m0 m1 => ?_⟩
    refine ⟨_, _, rfl, rfl, .inl (sq_lt m0 (by omega)), _, _, rfl, rfl, .inr ⟨by decide, by decide⟩, ?_⟩
    refine ⟨_, rfl, _, rfl, _, _, rfl, rfl, a, ns, k + 300, rfl, hS, hlen, by omega, by omega, fun u u0 u1 => ?_⟩
    refine ⟨_, _, rfl, rfl, ?_⟩
    obtain ⟨g, hg⟩ : ∃ g, g = m * 2147483587 * 2147483587 + u := ⟨_, rfl⟩
    -- the power of ten
    have t0 : 0 ≤ n / 8 % 30 := Int.emod_nonneg _ (by decide)
    have t1 : n / 8 % 30 < 30 := Int.emod_lt_of_pos _ (by decide)
    refine ⟨_, rfl, _, _, rfl, rfl, ⟨by decide, by decide⟩, _, _, rfl, rfl, (by show (0 : Int) < 30; decide), _, rfl, ?_, ?_, ?_⟩
    · show -(2 ^ 62) ≤ n / 8 % 30
      omega
    · show n / 8 % 30 < 2 ^ 62
      omega
    refine for_range (lo := 0) (fun i σ H' => H' = H ∧ ∃ y5, σ = [some (.ref a), some (.int k), some (.int n), some (.int g), some (.int (10 ^ i)), y5, none]) ⟨rfl, none, by rw [hg]; rfl⟩ ?_ ?_
    · rintro i σ H' hi ⟨rfl, y5, rfl⟩
      refine ⟨_, rfl, _, _, rfl, rfl, .inl ⟨by decide, by decide⟩, ?_⟩
      refine ⟨rfl, some (.int (0 + i)), ?_⟩
      rw [Int.pow_succ, Int.mul_comm]
      rfl
    · rintro σ H' ⟨rfl, y5, rfl⟩
      have p1 : (10 : Int) ^ (n / 8 % 30).toNat ≤ 10 ^ 30 := pow_le30 (by omega)
      have p0 : (0 : Int) ≤ 10 ^ (n / 8 % 30).toNat := Int.le_of_lt (Int.pow_pos (by decide))
      generalize hten : (10 : Int) ^ (n / 8 % 30).toNat = ten at p1 p0
      refine ⟨_, rfl, _, _, rfl, rfl, ⟨by decide, by decide⟩, _, _, rfl, rfl, (by show (0 : Int) < 10; decide), _, rfl, _, _, rfl, rfl, ⟨by decide, by decide⟩, _, _, rfl, rfl, (by show (0 : Int) < 1000; decide), ?_⟩
      refine ⟨_, rfl, 10, 30, rfl, rfl, cpow30, _, _, rfl, rfl, (by show (0 : Int) < 10 ^ 30; decide), _, rfl, (by show 4 ≤ sizeLine; decide), fun l hl => ?_⟩
      obtain ⟨size, hsz, hval⟩ := four_at (x := n / 8 % 10) (y := n / 8 % 1000) (z := g % 10 ^ 30) (u := ten) (i := n % 4) (Int.emod_nonneg _ (by decide)) (Int.emod_lt_of_pos _ (by decide))
      have z0 : 0 ≤ g % 10 ^ 30 := Int.emod_nonneg _ (by decide)
      have z1 : g % 10 ^ 30 < 10 ^ 30 := Int.emod_lt_of_pos _ (by decide)
      have sz0 : 0 ≤ size ∧ size ≤ 10 ^ 30 := by omega
      refine ⟨_, rfl, _, _, rfl, rfl, (by show (0 : Int) < 4; decide), l, _, _, _, rfl, rfl, SqL.of upd_same, hsz, ?_⟩
      obtain ⟨sg, hsg, hv⟩ := two_at (x := 1) (y := -1) (i := n / 4 % 2) (Int.emod_nonneg _ (by decide)) (Int.emod_lt_of_pos _ (by decide))
      refine ⟨_, rfl, _, rfl, (by show 2 ≤ sizeLine; decide), fun l2 hl2 => ?_⟩
      refine ⟨_, rfl, _, _, rfl, rfl, ⟨by decide, by decide⟩, _, _, rfl, rfl, (by show (0 : Int) < 2; decide), l2, _, _, _, rfl, rfl, SqL.of upd_same, hsg, ?_⟩
      refine ⟨_, _, rfl, rfl, .inr (by rcases hv with e | e <;> rw [e] <;> decide), ?_⟩
      refine q (size * sg) _ ?_ ((same_new hl).trans (same_new hl2))
      rcases hv with e | e <;> rw [e] <;> omega
end
end HW

/-! What is asked of three fractions. -/
namespace HW
open PySem PySem.Spec PyProof.Rows L2

/-- a def of two fractions as it stands -/
structure OpX (P : Program) (w : World) (K : PySem.W.Frag) (mg : Str → Option Value) (base : Heap) (k : Nat) (x : Str) (f : Addr) (fd : FuncData) (sp : Sp) : Prop where
  ok : FnOk P w K mg base CX0 k f fd ["one", "other"] sp
  g : mg x = some (.ref f)
  ki : PySem.W.keepIn K (.ref f) = true
  b : Binds K fd ["one", "other"] []

def spAgr : Sp := fun vs H Q _ => ∃ (a b c : Addr) (p q r : Rat), vs = [.ref a, .ref b, .ref c] ∧ FrAt H a p ∧ FrAt H b q ∧ FrAt H c r ∧ Sz 100 p ∧ Sz 100 q ∧ Sz 100 r ∧
  ∀ H' : Hp, Same H H' → Q (.bl true) H'

theorem fr01 {H : Hp} {a : Addr} (h : H a = some (.tup [.int 0, .int 1])) : FrAt H a 0 := h

section
variable {P : Program} {w : World} {K : PySem.W.Frag} {mg : Str → Option Value} {base : Heap}

theorem ok_agr {f f1 f2 f3 f4 f5 : Addr} {fd fd1 fd2 fd3 fd4 fd5 : FuncData} (F : Fun K "_law_agrees" "_law_agrees" sAgr f fd)
    (O1 : OpX P w K mg base 3 "plus" f1 fd1 (spOp (· + ·) yes)) (O2 : OpX P w K mg base 3 "minus" f2 fd2 (spOp (· - ·) yes)) (O3 : OpX P w K mg base 3 "times" f3 fd3 (spOp (· * ·) yes))
    (O4 : OpX P w K mg base 3 "over" f4 fd4 (spOp (· / ·) not0)) (O5 : OpX P w K mg base 1 "below" f5 fd5 spBelow) : FnOk P w K mg base CX0 4 f fd ["_law_a", "_law_b", "_law_c"] spAgr := by
  refine F.ok scAgr (fun vs H Q E h => ?_) (fun cdv A outer s H vs Q E hr h => ?_)
  · obtain ⟨a, b, c, p, q, r, rfl, _⟩ := h
    rfl
  · obtain ⟨a, b, c, p, q, r, rfl, ha, hb, hc, zp, zq, zr, k⟩ := h
    have hr1 : Room 1 _ := hr.mono (by decide)
    refine ⟨_, pss_cons (ps_if (PW.pt (pw_or
          (pt_cmpR (op_neD hr.units) (pe_call O2.ok hr (by rfl) O2.g O2.ki O2.b .nil pass0 (pa_cons (pe_call O1.ok hr (by rfl) O1.g O1.ki O1.b .nil pass0 (pa_cons (pv 0) (pa_cons (pv 1) pa_nil))) (pa_cons (pv 1) pa_nil))) (pv 0) (nomark _))
          (pw_or (pt_cmpR (op_neD hr.units) (pe_call O1.ok hr (by rfl) O1.g O1.ki O1.b .nil pass0 (pa_cons (pe_call O2.ok hr (by rfl) O2.g O2.ki O2.b .nil pass0 (pa_cons (pv 0) (pa_cons (pv 1) pa_nil))) (pa_cons (pv 1) pa_nil))) (pv 0) (nomark _))
          (pw_or1 (pt_cmpR (op_neD hr.units) (pe_call O1.ok hr (by rfl) O1.g O1.ki O1.b .nil pass0 (pa_cons (pv 0) (pa_cons (pv 1) pa_nil))) (pe_call O1.ok hr (by rfl) O1.g O1.ki O1.b .nil pass0 (pa_cons (pv 1) (pa_cons (pv 0) pa_nil))) (nomark _))))))
        (pss_one (ps_ret pe_bl)) pss_nil)
      (C8.pss_cut (ps_if (PW.pt (pw_and (pt_cmpR op_ne (pe_ix ix_tup (pv 1) pe_int (fun _ _ => rfl)) pe_int (nomark _))
          (pw_and1 (PW.pt (pw_or
            (pt_cmpR (op_neD hr.units) (pe_call O4.ok hr (by rfl) O4.g O4.ki O4.b .nil pass0 (pa_cons (pe_call O3.ok hr (by rfl) O3.g O3.ki O3.b .nil pass0 (pa_cons (pv 0) (pa_cons (pv 1) pa_nil))) (pa_cons (pv 1) pa_nil))) (pv 0) (nomark _))
            (pw_or1 (pt_cmpR (op_neD hr.units) (pe_call O3.ok hr (by rfl) O3.g O3.ki O3.b .nil pass0 (pa_cons (pe_call O4.ok hr (by rfl) O4.g O4.ki O4.b .nil pass0 (pa_cons (pv 0) (pa_cons (pv 1) pa_nil))) (pa_cons (pv 1) pa_nil))) (pv 0) (nomark _))))))))
        (pss_one (ps_ret pe_bl)) pss_nil)
      (pss_cons (ps_if (PW.pt (pw_or
          (pt_cmpR (op_neD hr.units) (pe_call O1.ok hr (by rfl) O1.g O1.ki O1.b .nil pass0 (pa_cons (pe_call O1.ok hr (by rfl) O1.g O1.ki O1.b .nil pass0 (pa_cons (pv 0) (pa_cons (pv 1) pa_nil))) (pa_cons (pv 2) pa_nil)))
            (pe_call O1.ok hr (by rfl) O1.g O1.ki O1.b .nil pass0 (pa_cons (pv 0) (pa_cons (pe_call O1.ok hr (by rfl) O1.g O1.ki O1.b .nil pass0 (pa_cons (pv 1) (pa_cons (pv 2) pa_nil))) pa_nil))) (nomark _))
          (pw_or1 (pt_cmpR (op_neD hr.units) (pe_call O3.ok hr (by rfl) O3.g O3.ki O3.b .nil pass0 (pa_cons (pe_call O3.ok hr (by rfl) O3.g O3.ki O3.b .nil pass0 (pa_cons (pv 0) (pa_cons (pv 1) pa_nil))) (pa_cons (pv 2) pa_nil)))
            (pe_call O3.ok hr (by rfl) O3.g O3.ki O3.b .nil pass0 (pa_cons (pv 0) (pa_cons (pe_call O3.ok hr (by rfl) O3.g O3.ki O3.b .nil pass0 (pa_cons (pv 1) (pa_cons (pv 2) pa_nil))) pa_nil))) (nomark _)))))
        (pss_one (ps_ret pe_bl)) pss_nil)
      (pss_cons (ps_if (PW.pt (pw_or
          (pt_cmpR (op_neD hr.units) (pe_call O3.ok hr (by rfl) O3.g O3.ki O3.b .nil pass0 (pa_cons (pv 0) (pa_cons (pe_call O1.ok hr (by rfl) O1.g O1.ki O1.b .nil pass0 (pa_cons (pv 1) (pa_cons (pv 2) pa_nil))) pa_nil)))
            (pe_call O1.ok hr (by rfl) O1.g O1.ki O1.b .nil pass0 (pa_cons (pe_call O3.ok hr (by rfl) O3.g O3.ki O3.b .nil pass0 (pa_cons (pv 0) (pa_cons (pv 1) pa_nil))) (pa_cons (pe_call O3.ok hr (by rfl) O3.g O3.ki O3.b .nil pass0 (pa_cons (pv 0) (pa_cons (pv 2) pa_nil))) pa_nil))) (nomark _))
          (pw_or1 (pt_cmpR (op_neD hr.units) (pe_call O3.ok hr (by rfl) O3.g O3.ki O3.b .nil pass0 (pa_cons (pv 0) (pa_cons (pv 1) pa_nil))) (pe_call O3.ok hr (by rfl) O3.g O3.ki O3.b .nil pass0 (pa_cons (pv 1) (pa_cons (pv 0) pa_nil))) (nomark _)))))
        (pss_one (ps_ret pe_bl)) pss_nil)
      (pss_cons (ps_if (PW.pt (pw_or
          (pt_cmpR op_ne (pe_bm PySem.F.plainAttrs_list PySem.F.slot_list_count PySem.F.type_list_count mt_bcount
            (pe_lst (pa_cons (pe_call O5.ok hr1 (by rfl) O5.g O5.ki O5.b .nil pass0 (pa_cons (pv 0) (pa_cons (pv 1) pa_nil))) (pa_cons (pe_cmpR (op_eqD hr.units) (pv 0) (pv 1) (nomark _))
              (pa_cons (pe_call O5.ok hr1 (by rfl) O5.g O5.ki O5.b .nil pass0 (pa_cons (pv 1) (pa_cons (pv 0) pa_nil))) pa_nil)))) (pa_cons pe_bl pa_nil)) pe_int (nomark _))
          (pw_or1 (pt_cmpR op_ne (pe_call O5.ok hr1 (by rfl) O5.g O5.ki O5.b .nil pass0 (pa_cons (pv 0) (pa_cons (pv 1) pa_nil)))
            (pe_call O5.ok hr1 (by rfl) O5.g O5.ki O5.b .nil pass0 (pa_cons (pe_call O1.ok hr (by rfl) O1.g O1.ki O1.b .nil pass0 (pa_cons (pv 0) (pa_cons (pv 2) pa_nil))) (pa_cons (pe_call O1.ok hr (by rfl) O1.g O1.ki O1.b .nil pass0 (pa_cons (pv 1) (pa_cons (pv 2) pa_nil))) pa_nil))) (nomark _)))))
        (pss_one (ps_ret pe_bl)) pss_nil)
      (pss_one (ps_ret (pe_or (pe_not (pe_call O5.ok hr1 (by rfl) O5.g O5.ki O5.b .nil pass0 (pa_cons (pe_tup (pa_cons pe_int (pa_cons pe_int pa_nil))) (pa_cons (pv 2) pa_nil))))
        (pe_one (pe_cmpR op_eq (pe_call O5.ok hr1 (by rfl) O5.g O5.ki O5.b .nil pass0 (pa_cons (pv 0) (pa_cons (pv 1) pa_nil)))
          (pe_call O5.ok hr1 (by rfl) O5.g O5.ki O5.b .nil pass0 (pa_cons (pe_call O3.ok hr (by rfl) O3.g O3.ki O3.b .nil pass0 (pa_cons (pv 0) (pa_cons (pv 2) pa_nil))) (pa_cons (pe_call O3.ok hr (by rfl) O3.g O3.ki O3.b .nil pass0 (pa_cons (pv 1) (pa_cons (pv 2) pa_nil))) pa_nil))) (nomark _)))))))))), ?_⟩
    have yp : Sz 4000 p := zp.mono (by decide)
    have yq : Sz 4000 q := zq.mono (by decide)
    have yr : Sz 4000 r := zr.mono (by decide)
    -- minus(plus(a, b), b) != a
    refine ⟨_, rfl, _, rfl, a, b, p, q, rfl, ha, hb, yp, yq, trivial, fun H1 x1 s1 g1 => ?_⟩
    refine ⟨_, rfl, x1, b, _, q, rfl, g1, hb.same s1, (sz_plus zp zq).mono (by decide), yq, trivial, fun H2 x2 s2 g2 => ?_⟩
    have s2 := s1.trans s2
    refine ⟨_, rfl, ne_same g2 (ha.same s2) Rat.add_sub_cancel ⟨_, rfl, iteF ?_⟩⟩
    -- plus(minus(a, b), b) != a
    refine ⟨_, rfl, _, rfl, a, b, p, q, rfl, ha.same s2, hb.same s2, yp, yq, trivial, fun H3 x3 s3 g3 => ?_⟩
    have s3 := s2.trans s3
    refine ⟨_, rfl, x3, b, _, q, rfl, g3, hb.same s3, (sz_minus zp zq).mono (by decide), yq, trivial, fun H4 x4 s4 g4 => ?_⟩
    have s4 := s3.trans s4
    refine ⟨_, rfl, ne_same g4 (ha.same s4) Rat.sub_add_cancel ⟨_, rfl, iteF ?_⟩⟩
    -- plus(a, b) != plus(b, a)
    refine ⟨_, rfl, _, rfl, a, b, p, q, rfl, ha.same s4, hb.same s4, yp, yq, trivial, fun H5 x5 s5 g5 => ?_⟩
    have t5 := s4.trans s5
    refine ⟨_, rfl, _, rfl, b, a, q, p, rfl, hb.same t5, ha.same t5, yq, yp, trivial, fun H6 x6 s6 g6 => ?_⟩
    have t6 := t5.trans s6
    refine ne_same (g5.same s6) g6 (Rat.add_comm p q) ⟨_, rfl, iteF ?_⟩
    -- where b is not 0: over(times(a, b), b) != a or times(over(a, b), b) != a
    refine ⟨fun σ H' => σ = [some (.ref a), some (.ref b), some (.ref c)] ∧ Same H H', ?_, ?_⟩
    · refine ⟨_, rfl, b, _, 0, _, rfl, rfl, (hb.same t6).sq, at0, rfl, _, rfl, ?_⟩
      by_cases hq : q = 0
      · exact iteNS (congrArg V.int (Rat.num_eq_zero.mpr hq)) (iteF ⟨rfl, t6⟩)
      · have hv : ¬ (V.int q.num = V.int 0) := fun z => num_ne hq (V.int.inj z)
        rw [decide_eq_false hv]
        refine iteT ?_
        refine ⟨_, rfl, _, rfl, a, b, p, q, rfl, ha.same t6, hb.same t6, yp, yq, trivial, fun H1 x1 s1 g1 => ?_⟩
        have u1 := t6.trans s1
        refine ⟨_, rfl, x1, b, _, q, rfl, g1, hb.same u1, (sz_times zp zq).mono (by decide), yq, hq, fun H2 x2 s2 g2 => ?_⟩
        have u2 := u1.trans s2
        refine ⟨_, rfl, ne_same g2 (ha.same u2) (Rat.mul_div_cancel hq) ⟨_, rfl, iteF ?_⟩⟩
        refine ⟨_, rfl, _, rfl, a, b, p, q, rfl, ha.same u2, hb.same u2, yp, yq, hq, fun H3 x3 s3 g3 => ?_⟩
        have u3 := u2.trans s3
        refine ⟨_, rfl, x3, b, _, q, rfl, g3, hb.same u3, (sz_over hq zp zq).mono (by decide), yq, trivial, fun H4 x4 s4 g4 => ?_⟩
        have u4 := u3.trans s4
        exact ⟨_, rfl, ne_same g4 (ha.same u4) (Rat.div_mul_cancel hq) ⟨_, rfl, iteF ⟨rfl, u4⟩⟩⟩
    · rintro σ J0 ⟨rfl, w0⟩
      -- plus(plus(a, b), c) != plus(a, plus(b, c))
      refine ⟨_, rfl, _, rfl, a, b, p, q, rfl, ha.same w0, hb.same w0, yp, yq, trivial, fun J1 x1 s1 g1 => ?_⟩
      have w1 := w0.trans s1
      refine ⟨_, rfl, x1, c, _, r, rfl, g1, hc.same w1, (sz_plus zp zq).mono (by decide), yr, trivial, fun J2 x2 s2 g2 => ?_⟩
      have w2 := w1.trans s2
      refine ⟨_, rfl, _, rfl, _, rfl, b, c, q, r, rfl, hb.same w2, hc.same w2, yq, yr, trivial, fun J3 x3 s3 g3 => ?_⟩
      have w3 := w2.trans s3
      refine ⟨a, x3, p, _, rfl, ha.same w3, g3, yp, (sz_plus zq zr).mono (by decide), trivial, fun J4 x4 s4 g4 => ?_⟩
      have w4 := w3.trans s4
      refine ne_same (g2.same (s3.trans s4)) g4 (Rat.add_assoc p q r) ⟨_, rfl, iteF ?_⟩
      -- times(times(a, b), c) != times(a, times(b, c))
      refine ⟨_, rfl, _, rfl, a, b, p, q, rfl, ha.same w4, hb.same w4, yp, yq, trivial, fun J5 x5 s5 g5 => ?_⟩
      have w5 := w4.trans s5
      refine ⟨_, rfl, x5, c, _, r, rfl, g5, hc.same w5, (sz_times zp zq).mono (by decide), yr, trivial, fun J6 x6 s6 g6 => ?_⟩
      have w6 := w5.trans s6
      refine ⟨_, rfl, _, rfl, _, rfl, b, c, q, r, rfl, hb.same w6, hc.same w6, yq, yr, trivial, fun J7 x7 s7 g7 => ?_⟩
      have w7 := w6.trans s7
      refine ⟨a, x7, p, _, rfl, ha.same w7, g7, yp, (sz_times zq zr).mono (by decide), trivial, fun J8 x8 s8 g8 => ?_⟩
      have w8 := w7.trans s8
      refine ne_same (g6.same (s7.trans s8)) g8 (Rat.mul_assoc p q r) ⟨_, rfl, iteF ?_⟩
      -- times(a, plus(b, c)) != plus(times(a, b), times(a, c))
      refine ⟨_, rfl, _, rfl, _, rfl, b, c, q, r, rfl, hb.same w8, hc.same w8, yq, yr, trivial, fun J9 x9 s9 g9 => ?_⟩
      have w9 := w8.trans s9
      refine ⟨a, x9, p, _, rfl, ha.same w9, g9, yp, (sz_plus zq zr).mono (by decide), trivial, fun J10 x10 s10 g10 => ?_⟩
      have w10 := w9.trans s10
      refine ⟨_, rfl, _, rfl, a, b, p, q, rfl, ha.same w10, hb.same w10, yp, yq, trivial, fun J11 x11 s11 g11 => ?_⟩
      have w11 := w10.trans s11
      refine ⟨_, rfl, _, rfl, a, c, p, r, rfl, ha.same w11, hc.same w11, yp, yr, trivial, fun J12 x12 s12 g12 => ?_⟩
      have w12 := w11.trans s12
      refine ⟨x11, x12, _, _, rfl, g11.same s12, g12, (sz_times zp zq).mono (by decide), (sz_times zp zr).mono (by decide), trivial, fun J13 x13 s13 g13 => ?_⟩
      have w13 := w12.trans s13
      refine ne_same (g10.same ((s11.trans s12).trans s13)) g13 (Rat.mul_add p q r) ⟨_, rfl, iteF ?_⟩
      -- times(a, b) != times(b, a)
      refine ⟨_, rfl, _, rfl, a, b, p, q, rfl, ha.same w13, hb.same w13, yp, yq, trivial, fun J14 x14 s14 g14 => ?_⟩
      have w14 := w13.trans s14
      refine ⟨_, rfl, _, rfl, b, a, q, p, rfl, hb.same w14, ha.same w14, yq, yp, trivial, fun J15 x15 s15 g15 => ?_⟩
      have w15 := w14.trans s15
      refine ne_same (g14.same s15) g15 (Rat.mul_comm p q) ⟨_, rfl, iteF ?_⟩
      -- [below(a, b), a == b, below(b, a)].count(True) != 1
      refine ⟨_, rfl, _, rfl, a, b, p, q, rfl, ha.same w15, hb.same w15, yp, yq, ?_⟩
      refine ⟨_, rfl, _, rfl, eq_frs (ha.same w15) (hb.same w15) ?_⟩
      refine ⟨_, rfl, _, rfl, b, a, q, p, rfl, hb.same w15, ha.same w15, yq, yp, ?_⟩
      refine ⟨(by show 3 ≤ sizeLine; decide), fun l hl => ?_⟩
      have w16 := w15.trans (same_new (o := .lst [.bl (decide (p < q)), .bl (decide (p = q)), .bl (decide (q < p))]) hl)
      refine ⟨.inl ⟨rfl, _, SqL.of upd_same⟩, l, [decide (p < q), decide (p = q), decide (q < p)], true, rfl, rfl, SqL.of upd_same, rfl, _, rfl, ?_⟩
      rw [just_one]
      refine iteNS rfl ?_
      -- below(a, b) != below(plus(a, c), plus(b, c))
      refine ⟨_, rfl, _, rfl, a, b, p, q, rfl, ha.same w16, hb.same w16, yp, yq, ?_⟩
      refine ⟨_, rfl, _, rfl, a, c, p, r, rfl, ha.same w16, hc.same w16, yp, yr, trivial, fun J17 x17 s17 g17 => ?_⟩
      have w17 := w16.trans s17
      refine ⟨_, rfl, _, rfl, b, c, q, r, rfl, hb.same w17, hc.same w17, yq, yr, trivial, fun J18 x18 s18 g18 => ?_⟩
      have w18 := w17.trans s18
      refine ⟨x17, x18, _, _, rfl, g17.same s18, g18, (sz_plus zp zr).mono (by decide), (sz_plus zq zr).mono (by decide), rfl, _, rfl, ?_⟩
      refine iteNS (congrArg V.bl (lt_plus p q r).symm) ?_
      -- not below((0, 1), c) or below(a, b) == below(times(a, c), times(b, c))
      refine ⟨(by show 2 ≤ sizeLine; decide), fun z hz => ?_⟩
      have w19 := w18.trans (same_new (o := .tup [.int 0, .int 1]) hz)
      refine ⟨_, rfl, z, c, 0, r, rfl, fr01 upd_same, hc.same w19, ⟨by decide, by decide⟩, yr, _, rfl, ?_⟩
      by_cases h0 : 0 < r
      · rw [decide_eq_true h0]
        refine ⟨_, rfl, iteF ?_⟩
        refine ⟨_, rfl, _, rfl, a, b, p, q, rfl, ha.same w19, hb.same w19, yp, yq, ?_⟩
        refine ⟨_, rfl, _, rfl, a, c, p, r, rfl, ha.same w19, hc.same w19, yp, yr, trivial, fun J20 x20 s20 g20 => ?_⟩
        have w20 := w19.trans s20
        refine ⟨_, rfl, _, rfl, b, c, q, r, rfl, hb.same w20, hc.same w20, yq, yr, trivial, fun J21 x21 s21 g21 => ?_⟩
        have w21 := w20.trans s21
        refine ⟨x20, x21, _, _, rfl, g20.same s21, g21, (sz_times zp zr).mono (by decide), (sz_times zq zr).mono (by decide), rfl, ?_⟩
        have e : decide (V.bl (decide (p < q)) = V.bl (decide (p * r < q * r))) = true := decide_eq_true (congrArg V.bl (lt_times p q h0).symm)
        have fin := k J21 w21
        rw [← e] at fin
        exact fin
      · rw [decide_eq_false h0]
        exact ⟨_, rfl, iteT (k _ w19)⟩
end
end HW

/-! The law: up to ten threes of fractions. -/
namespace HW
open PySem PySem.Spec PyProof.Rows L2

def spLaw (K : PySem.W.Frag) : Sp := fun vs H Q _ => ∃ (a : Addr) (ns : List Int), vs = [.ref a] ∧ SqL K H a (ns.map V.int) ∧ ns.length ≤ 63 ∧ ∀ H', Q (.bl true) H'

/-- fractions at these addresses, each of fewer than a hundred bits -/
def Frs (H : Hp) (rs : List Addr) : Prop := ∀ r ∈ rs, ∃ p, FrAt H r p ∧ Sz 100 p
theorem Frs.same {H H' : Hp} {rs : List Addr} (h : Frs H rs) (s : Same H H') : Frs H' rs := fun r hr =>
  let ⟨p, h1, h2⟩ := h r hr
  ⟨p, h1.same s, h2⟩
theorem Frs.upd {H : Hp} {rs : List Addr} {l : Addr} {xs ys : List V} (h : Frs H rs) (hl : H l = some (.lst xs)) : Frs (upd H l (.lst ys)) rs := fun r hr => by
  obtain ⟨p, h1, h2⟩ := h r hr
  refine ⟨p, ?_, h2⟩
  have hne : r ≠ l := fun e => by
    rw [e] at h1
    have z := h1.symm.trans hl
    cases z
  show L2.upd H l (.lst ys) r = _
  rw [upd_ne hne]
  exact h1
theorem Frs.snoc {H : Hp} {rs : List Addr} {r : Addr} {p : Rat} (h : Frs H rs) (hr : FrAt H r p) (hz : Sz 100 p) : Frs H (rs ++ [r]) := fun x hx => by
  rcases List.mem_append.mp hx with z | z
  · exact h x z
  · rw [show x = r from List.mem_singleton.mp z]
    exact ⟨p, hr, hz⟩
theorem three {rs : List Addr} (h : rs.length = 3) : ∃ x y z, rs = [x, y, z] := by
  match rs, h with
  | [u, v, t], _ => exact ⟨u, v, t, rfl⟩
theorem same_store {H H' : Hp} {l : Addr} {o : HO} (s : Same H H') (h : H l = none) : Same H (upd H' l o) := fun b x e => by
  rw [upd_ne (ne_of_none e h)]
  exact s b x e

section
variable {P : Program} {w : World} {K : PySem.W.Frag} {mg : Str → Option Value} {base : Heap}

theorem ok_law {f fN fR fA : Addr} {fd fdN fdR fdA : FuncData} (F : Fun K "law" "law" sLaw f fd)
    (GN : FnOk P w K mg base CX0 2 fN fdN ["_law_script", "_law_k"] (spNum K)) (gN : mg "_law_number" = some (.ref fN)) (kN : PySem.W.keepIn K (.ref fN) = true) (bN : Binds K fdN ["_law_script", "_law_k"] [])
    (R : RatX P w K mg base fR fdR)
    (GA : FnOk P w K mg base CX0 4 fA fdA ["_law_a", "_law_b", "_law_c"] spAgr) (gA : mg "_law_agrees" = some (.ref fA)) (kA : PySem.W.keepIn K (.ref fA) = true) (bA : Binds K fdA ["_law_a", "_law_b", "_law_c"] [])
    (ml : mg "len" = none) (mr : mg "range" = none) (mm : mg "min" = none) (mx : mg "max" = none) : FnOk P w K mg base CX0 5 f fd ["_law_script"] (spLaw K) := by
  refine F.ok scLaw (fun vs H Q E h => ?_) (fun cdv A outer s H vs Q E hr h => ?_)
  · obtain ⟨a, ns, rfl, _⟩ := h
    rfl
  · obtain ⟨a, ns, rfl, hS, hlen, q⟩ := h
    have hr2 : Room 2 _ := hr.mono (by decide)
    refine ⟨_, pss_cons (ps_for PassesOwn.never rfl (pi_range1 (by rfl) mr (pa_cons (pe_callB (call_max2 rfl) (by rfl) mx boot_max (pa_cons pe_int (pa_cons
          (pe_callB (call_min2 rfl) (by rfl) mm boot_min (pa_cons pe_int (pa_cons (pe_callB call_len_seq (by rfl) ml PySem.boot_len (pa_cons (pv 0) pa_nil)) pa_nil))) pa_nil))) pa_nil)) (pg_name (i := 1) scLaw.nd rfl (.inl rfl))
        (pss_cons (ps_set (i := 2) scLaw.nd rfl (.inl rfl) (pe_lst pa_nil))
        (pss_cons (ps_for PassesOwn.never rfl (pi_range1 (by rfl) mr (pa_cons pe_int pa_nil)) (pg_name (i := 3) scLaw.nd rfl (.inl rfl))
          (pss_cons (ps_set (i := 4) scLaw.nd rfl (.inl rfl) (pe_call GN hr2 (by rfl) gN kN bN .nil pass0 (pa_cons (pv 0) (pa_cons (pe_op op_add (pe_op op_add (pe_op op_mul pe_int (pv 3)) (pv 1)) pe_int) pa_nil))))
          (C8.pss_cut (ps_if (pt_cmpR op_eq (pv 4) pe_int (nomark _)) (pss_one (ps_set (i := 4) scLaw.nd rfl (.inl rfl) (pe_op op_add pe_int (pv 3)))) pss_nil)
          (pss_one (ps_expr (pe_bm PySem.F.plainAttrs_list PySem.F.slot_list_append PySem.F.type_list_append mt_append (pv 2) (pa_cons
            (pe_call R.ok hr2 (by rfl) R.g R.kp R.b .nil pass0 (pa_cons (pe_call GN hr2 (by rfl) gN kN bN .nil pass0 (pa_cons (pv 0) (pa_cons (pe_op op_add (pe_op op_mul pe_int (pv 3)) (pv 1)) pa_nil))) (pa_cons (pv 4) pa_nil))) pa_nil)))))))
        (pss_one (ps_if (pt_not (pt_val (pe_call GA hr (by rfl) gA kA bA .nil pass0 (pa_cons (pe_ix ix_list (pv 2) pe_int (fun _ _ => rfl)) (pa_cons (pe_ix ix_list (pv 2) pe_int (fun _ _ => rfl)) (pa_cons (pe_ix ix_list (pv 2) pe_int (fun _ _ => rfl)) pa_nil))))))
          (pss_one (ps_ret pe_bl)) pss_nil)))))
      (pss_one (ps_ret pe_bl)), ?_⟩
    -- range(max(1, min(10, len(script))))
    refine ⟨.ref a, rfl, a, _, rfl, .inl hS, 10, _, rfl, 1, _, rfl, _, rfl, ?_, ?_, ?_⟩
    · rw [List.length_map]
      split <;> split <;> omega
    · rw [List.length_map]
      split <;> split <;> omega
    have turns : (if (if (((ns.map V.int).length : Nat) : Int) < 10 then (((ns.map V.int).length : Nat) : Int) else 10) > 1 then (if (((ns.map V.int).length : Nat) : Int) < 10 then (((ns.map V.int).length : Nat) : Int) else 10) else 1 : Int).toNat ≤ 10 := by
      split <;> split <;> omega
    refine for_range (lo := 0) (fun i σ H' => Same H H' ∧ ∃ y1 y2 y3 y4, σ = [some (.ref a), y1, y2, y3, y4]) ⟨fun _ _ e => e, none, none, none, none, rfl⟩ ?_ ?_
    · rintro i σ H0 hi ⟨s0, y1, y2, y3, y4, rfl⟩
      have hi10 : i < 10 := Nat.lt_of_lt_of_le hi turns
      -- three = []
      refine ⟨Nat.zero_le _, fun l hl => ?_⟩
      have hlH : H l = none := s0.free hl
      -- for j in range(3)
      refine ⟨_, rfl, by decide, by decide, ?_⟩
      refine for_range (lo := 0) (n := 3) (fun j σ H' => Same H H' ∧ ∃ (rs : List Addr) (y3 y4 : Option V), σ = [some (.ref a), some (.int (0 + (i : Int))), some (.ref l), y3, y4] ∧ H' l = some (.lst (rs.map V.ref)) ∧ rs.length = j ∧ Frs H' rs)
        ⟨same_store s0 hlH, [], y3, y4, rfl, upd_same, rfl, fun r hr => by cases hr⟩ ?_ ?_
      · rintro j σ H1 hj ⟨s1, rs, y3, y4, rfl, hL, hln, hF⟩
        -- bottom
        refine ⟨_, rfl, _, rfl, _, _, rfl, rfl, .inl ⟨by decide, by decide⟩, _, rfl, _, _, rfl, rfl, _, _, rfl, rfl, a, ns, _, rfl, s1.seq hS, hlen, by omega, by omega, fun bt H2 hb s2 => ?_⟩
        refine ⟨fun σ H' => Same H2 H' ∧ ∃ b : Int, b ≠ 0 ∧ b.natAbs < 2 ^ 100 ∧ σ = [some (.ref a), some (.int (0 + (i : Int))), some (.ref l), some (.int (0 + (j : Int))), some (.int b)], ?_, ?_⟩
        · refine ⟨_, rfl, rfl, _, rfl, ?_⟩
          refine ite2 (fun h1 => ?_) (fun h1 => ?_)
          · refine ⟨_, rfl, _, _, rfl, rfl, ?_⟩
            exact ⟨fun _ _ e => e, _, by omega, by omega, rfl⟩
          · exact ⟨fun _ _ e => e, _, fun z => h1 (decide_eq_true (congrArg V.int z)), hb, rfl⟩
        · rintro σ H3 ⟨s3, b, hb0, hb1, rfl⟩
          have s13 := s2.trans s3
          have s03 := s1.trans s13
          -- three.append(ratio(number, bottom))
          refine ⟨.ref l, rfl, .inl ⟨rfl, _, SqL.of (s13 _ _ hL)⟩, ?_⟩
          refine ⟨_, rfl, _, rfl, _, _, rfl, rfl, .inl ⟨by decide, by decide⟩, _, rfl, _, _, rfl, rfl, a, ns, _, rfl, s03.seq hS, hlen, by omega, by omega, fun tp H4 ht s4 => ?_⟩
          refine ⟨_, rfl, tp, b, rfl, hb0, pow_more hb1 (by decide), fun H5 r s5 g5 => ?_⟩
          have s15 := (s13.trans s4).trans s5
          refine ⟨l, rs.map V.ref, _, rfl, rfl, s15 _ _ hL, ?_, ?_⟩
          · rw [List.length_map]
            exact small1000 (by omega)
          · refine ⟨same_store (s1.trans s15) hlH, rs ++ [r], _, _, rfl, ?_, ?_, ?_⟩
            · rw [upd_same, List.map_append]
              rfl
            · rw [List.length_append, hln]
              rfl
            · exact ((hF.same s15).snoc g5 (sz_div hb0 ht hb1)).upd (s15 _ _ hL)
      · rintro σ H1 ⟨s1, rs, y3, y4, rfl, hL, hln, hF⟩
        obtain ⟨x, y, z, rfl⟩ := three hln
        obtain ⟨p, gp, zp⟩ := hF x (by simp)
        obtain ⟨p2, gp2, zp2⟩ := hF y (by simp)
        obtain ⟨p3, gp3, zp3⟩ := hF z (by simp)
        refine ⟨.ref l, rfl, l, _, 0, _, rfl, rfl, SqL.of hL, atI_nat (j := 0) rfl, .ref l, rfl, l, _, 1, _, rfl, rfl, SqL.of hL, atI_nat (j := 1) rfl, .ref l, rfl, l, _, 2, _, rfl, rfl, SqL.of hL, atI_nat (j := 2) rfl, ?_⟩
        refine ⟨x, y, z, p, p2, p3, rfl, gp, gp2, gp3, zp, zp2, zp3, fun H2 s2 => ⟨_, rfl, iteF ?_⟩⟩
        exact ⟨s1.trans s2, _, _, _, _, rfl⟩
    · rintro σ H' ⟨_, y1, y2, y3, y4, rfl⟩
      exact q H'
end
end HW

/-! What the top has left; the statement. -/
namespace HW
open PySem PySem.Spec PyProof.Rows L2

theorem all_mk {l : PySem.W.OpenLaw} {w : World} {K : PySem.W.Frag} {h : Heap} {mg : Str → Option Value} {fa f1 f2 f3 f4 f5 f6 f7 f8 f9 f10 f11 : Addr} (X : K.In h) (G : h.Ns mainGlobals mg) (hfa : mg "law" = some (.ref fa))
    {od1 an1 od2 an2 od3 an3 od4 an4 od5 an5 od6 an6 od7 an7 od8 an8 od9 an9 od10 an10 od11 an11 : Option Addr} {sl1 sl2 sl3 sl4 sl5 sl6 sl7 sl8 sl9 sl10 sl11 : Array (Option Value)}
    {oc1 kV1 dc1 pm1 cd1 ct1 oc2 kV2 dc2 pm2 cd2 ct2 oc3 kV3 dc3 pm3 cd3 ct3 oc4 kV4 dc4 pm4 cd4 ct4 oc5 kV5 dc5 pm5 cd5 ct5 oc6 kV6 dc6 pm6 cd6 ct6 oc7 kV7 dc7 pm7 cd7 ct7 oc8 kV8 dc8 pm8 cd8 ct8 oc9 kV9 dc9 pm9 cd9 ct9 oc10 kV10 dc10 pm10 cd10 ct10 oc11 kV11 dc11 pm11 cd11 ct11 : Value}
    (a1 : PySem.W.nsIn K mainGlobals "divisor" = some (some (.ref f1)))
    (l1 : K.lookup f1 = some ⟨oc1, od1, .func (PySem.W.fnOf "divisor" "divisor" (defArgs sDiv) (defBody sDiv) (defScope sDiv) .none kV1 dc1 pm1 an1 cd1 ct1), sl1⟩)
    (c1 : PySem.W.codeIn K cd1 "divisor" = true) (k1 : PySem.W.keepIn K (.ref f1) = true)
    (a2 : PySem.W.nsIn K mainGlobals "ratio" = some (some (.ref f2)))
    (l2 : K.lookup f2 = some ⟨oc2, od2, .func (PySem.W.fnOf "ratio" "ratio" (defArgs sRat) (defBody sRat) (defScope sRat) .none kV2 dc2 pm2 an2 cd2 ct2), sl2⟩)
    (c2 : PySem.W.codeIn K cd2 "ratio" = true) (k2 : PySem.W.keepIn K (.ref f2) = true)
    (a3 : PySem.W.nsIn K mainGlobals "plus" = some (some (.ref f3)))
    (l3 : K.lookup f3 = some ⟨oc3, od3, .func (PySem.W.fnOf "plus" "plus" (defArgs sPlus) (defBody sPlus) (defScope sPlus) .none kV3 dc3 pm3 an3 cd3 ct3), sl3⟩)
    (c3 : PySem.W.codeIn K cd3 "plus" = true) (k3 : PySem.W.keepIn K (.ref f3) = true)
    (a4 : PySem.W.nsIn K mainGlobals "minus" = some (some (.ref f4)))
    (l4 : K.lookup f4 = some ⟨oc4, od4, .func (PySem.W.fnOf "minus" "minus" (defArgs sMinus) (defBody sMinus) (defScope sMinus) .none kV4 dc4 pm4 an4 cd4 ct4), sl4⟩)
    (c4 : PySem.W.codeIn K cd4 "minus" = true) (k4 : PySem.W.keepIn K (.ref f4) = true)
    (a5 : PySem.W.nsIn K mainGlobals "times" = some (some (.ref f5)))
    (l5 : K.lookup f5 = some ⟨oc5, od5, .func (PySem.W.fnOf "times" "times" (defArgs sTimes) (defBody sTimes) (defScope sTimes) .none kV5 dc5 pm5 an5 cd5 ct5), sl5⟩)
    (c5 : PySem.W.codeIn K cd5 "times" = true) (k5 : PySem.W.keepIn K (.ref f5) = true)
    (a6 : PySem.W.nsIn K mainGlobals "over" = some (some (.ref f6)))
    (l6 : K.lookup f6 = some ⟨oc6, od6, .func (PySem.W.fnOf "over" "over" (defArgs sOver) (defBody sOver) (defScope sOver) .none kV6 dc6 pm6 an6 cd6 ct6), sl6⟩)
    (c6 : PySem.W.codeIn K cd6 "over" = true) (k6 : PySem.W.keepIn K (.ref f6) = true)
    (a7 : PySem.W.nsIn K mainGlobals "below" = some (some (.ref f7)))
    (l7 : K.lookup f7 = some ⟨oc7, od7, .func (PySem.W.fnOf "below" "below" (defArgs sBelow) (defBody sBelow) (defScope sBelow) .none kV7 dc7 pm7 an7 cd7 ct7), sl7⟩)
    (c7 : PySem.W.codeIn K cd7 "below" = true) (k7 : PySem.W.keepIn K (.ref f7) = true)
    (a8 : PySem.W.nsIn K mainGlobals "_law_mixed" = some (some (.ref f8)))
    (l8 : K.lookup f8 = some ⟨oc8, od8, .func (PySem.W.fnOf "_law_mixed" "_law_mixed" (defArgs sMixed) (defBody sMixed) (defScope sMixed) .none kV8 dc8 pm8 an8 cd8 ct8), sl8⟩)
    (c8 : PySem.W.codeIn K cd8 "_law_mixed" = true) (k8 : PySem.W.keepIn K (.ref f8) = true)
    (a9 : PySem.W.nsIn K mainGlobals "_law_number" = some (some (.ref f9)))
    (l9 : K.lookup f9 = some ⟨oc9, od9, .func (PySem.W.fnOf "_law_number" "_law_number" (defArgs sNum) (defBody sNum) (defScope sNum) .none kV9 dc9 pm9 an9 cd9 ct9), sl9⟩)
    (c9 : PySem.W.codeIn K cd9 "_law_number" = true) (k9 : PySem.W.keepIn K (.ref f9) = true)
    (a10 : PySem.W.nsIn K mainGlobals "_law_agrees" = some (some (.ref f10)))
    (l10 : K.lookup f10 = some ⟨oc10, od10, .func (PySem.W.fnOf "_law_agrees" "_law_agrees" (defArgs sAgr) (defBody sAgr) (defScope sAgr) .none kV10 dc10 pm10 an10 cd10 ct10), sl10⟩)
    (c10 : PySem.W.codeIn K cd10 "_law_agrees" = true) (k10 : PySem.W.keepIn K (.ref f10) = true)
    (a11 : PySem.W.nsIn K mainGlobals "law" = some (some (.ref f11)))
    (l11 : K.lookup f11 = some ⟨oc11, od11, .func (PySem.W.fnOf "law" "law" (defArgs sLaw) (defBody sLaw) (defScope sLaw) .none kV11 dc11 pm11 an11 cd11 ct11), sl11⟩)
    (c11 : PySem.W.codeIn K cd11 "law" = true) (k11 : PySem.W.keepIn K (.ref f11) = true)
    (z1 : PySem.W.nsIn K mainGlobals "abs" = some none)
    (z2 : PySem.W.nsIn K mainGlobals "len" = some none)
    (z3 : PySem.W.nsIn K mainGlobals "range" = some none)
    (z4 : PySem.W.nsIn K mainGlobals "min" = some none)
    (z5 : PySem.W.nsIn K mainGlobals "max" = some none)
    : ∃ fd : FuncData, (∀ (s : Shared) (v : Value), BindsTo s fd ⟨[v], []⟩ [("_law_script", v)]) ∧ ∀ base : Heap, K.In base → base.Ns mainGlobals mg → FnOk l.prog w K mg base CX0 5 fa fd ["_law_script"] (spLaw K) := by
  have e := hfa.symm.trans (PySem.W.mg_of X G a11)
  cases e
  have m1 : mg "abs" = none := PySem.W.mg_none_of X G z1
  have m2 : mg "len" = none := PySem.W.mg_none_of X G z2
  have m3 : mg "range" = none := PySem.W.mg_none_of X G z3
  have m4 : mg "min" = none := PySem.W.mg_none_of X G z4
  have m5 : mg "max" = none := PySem.W.mg_none_of X G z5
  have F1 := fun_mk (st := sDiv) l1 c1 k1
  have F2 := fun_mk (st := sRat) l2 c2 k2
  have F3 := fun_mk (st := sPlus) l3 c3 k3
  have F4 := fun_mk (st := sMinus) l4 c4 k4
  have F5 := fun_mk (st := sTimes) l5 c5 k5
  have F6 := fun_mk (st := sOver) l6 c6 k6
  have F7 := fun_mk (st := sBelow) l7 c7 k7
  have F8 := fun_mk (st := sMixed) l8 c8 k8
  have F9 := fun_mk (st := sNum) l9 c9 k9
  have F10 := fun_mk (st := sAgr) l10 c10 k10
  have F11 := fun_mk (st := sLaw) l11 c11 k11
  have b1 := F1.binds (ps := ["one", "other"]) fun _ _ _ _ _ _ us hl => match us, hl with | [_, _], _ => rfl
  have b2 := F2.binds (ps := ["top", "bottom"]) fun _ _ _ _ _ _ us hl => match us, hl with | [_, _], _ => rfl
  have b3 := F3.binds (ps := ["one", "other"]) fun _ _ _ _ _ _ us hl => match us, hl with | [_, _], _ => rfl
  have b4 := F4.binds (ps := ["one", "other"]) fun _ _ _ _ _ _ us hl => match us, hl with | [_, _], _ => rfl
  have b5 := F5.binds (ps := ["one", "other"]) fun _ _ _ _ _ _ us hl => match us, hl with | [_, _], _ => rfl
  have b6 := F6.binds (ps := ["one", "other"]) fun _ _ _ _ _ _ us hl => match us, hl with | [_, _], _ => rfl
  have b7 := F7.binds (ps := ["one", "other"]) fun _ _ _ _ _ _ us hl => match us, hl with | [_, _], _ => rfl
  have b8 := F8.binds (ps := ["_law_script", "_law_k"]) fun _ _ _ _ _ _ us hl => match us, hl with | [_, _], _ => rfl
  have b9 := F9.binds (ps := ["_law_script", "_law_k"]) fun _ _ _ _ _ _ us hl => match us, hl with | [_, _], _ => rfl
  have b10 := F10.binds (ps := ["_law_a", "_law_b", "_law_c"]) fun _ _ _ _ _ _ us hl => match us, hl with | [_, _, _], _ => rfl
  refine ⟨PySem.W.fnOf "law" "law" (defArgs sLaw) (defBody sLaw) (defScope sLaw) .none kV11 dc11 pm11 an11 cd11 ct11, fun s v => .of_eq rfl, fun base _ _ => ?_⟩
  have R : RatX l.prog w K mg base f2 _ := ⟨ok_rat F2 F1 b1 (PySem.W.mg_of X G a1) m1, PySem.W.mg_of X G a2, k2, b2⟩
  have O1 : OpX l.prog w K mg base 3 "plus" f3 _ (spOp (· + ·) yes) := ⟨ok_plus F3 R, PySem.W.mg_of X G a3, k3, b3⟩
  have O2 : OpX l.prog w K mg base 3 "minus" f4 _ (spOp (· - ·) yes) := ⟨ok_minus F4 R, PySem.W.mg_of X G a4, k4, b4⟩
  have O3 : OpX l.prog w K mg base 3 "times" f5 _ (spOp (· * ·) yes) := ⟨ok_times F5 R, PySem.W.mg_of X G a5, k5, b5⟩
  have O4 : OpX l.prog w K mg base 3 "over" f6 _ (spOp (· / ·) not0) := ⟨ok_over F6 R, PySem.W.mg_of X G a6, k6, b6⟩
  have O5 : OpX l.prog w K mg base 1 "below" f7 _ spBelow := ⟨ok_below F7, PySem.W.mg_of X G a7, k7, b7⟩
  exact ok_law F11 (ok_num F9 F8 b8 (PySem.W.mg_of X G a8) m2 m3 m4) (PySem.W.mg_of X G a9) k9 b9 R (ok_agr F10 O1 O2 O3 O4 O5) (PySem.W.mg_of X G a10) k10 b10 m2 m3 m4 m5
end HW
open PySem PySem.W PyProof.Rows
set_option maxRecDepth 100000 in
set_option maxHeartbeats 0 in
theorem PySem.Challenge.cw_hideworth_k05_whole_reckoning_agrees_holds : PySem.Challenge.rw_hideworth_k05_whole_reckoning_agrees.Holds := by
  w_on; o_law; k_head; (case hw => w_witness2)
  k_fill
  refine L2.walk_of (l := PySem.Challenge.rw_hideworth_k05_whole_reckoning_agrees) (n := 63) (k := 5) (x := "_law_script") (CX := fun _ => L2.CX0) (sp := fun w => HW.spLaw _) rfl (by decide) rfl ⟨rfl, by decide, by decide⟩ (fun w h Y => PySem.W.kIn_of Y) ?F (fun _ _ a ns hl _ hS => ⟨a, ns, rfl, hS, hl, fun _ => rfl⟩) (fun _ _ _ _ _ h => h)
  case F =>
    intro w mg fa h KX G hmg
    refine' HW.all_mk KX G hmg ?a1 ?l1 ?c1 ?k1 ?a2 ?l2 ?c2 ?k2 ?a3 ?l3 ?c3 ?k3 ?a4 ?l4 ?c4 ?k4 ?a5 ?l5 ?c5 ?k5 ?a6 ?l6 ?c6 ?k6 ?a7 ?l7 ?c7 ?k7 ?a8 ?l8 ?c8 ?k8 ?a9 ?l9 ?c9 ?k9 ?a10 ?l10 ?c10 ?k10 ?a11 ?l11 ?c11 ?k11 ?z1 ?z2 ?z3 ?z4 ?z5
    (case a1 => k_is); (case l1 => k_is); (case c1 => k_is); (case k1 => k_is); (case a2 => k_is); (case l2 => k_is); (case c2 => k_is); (case k2 => k_is)
    (case a3 => k_is); (case l3 => k_is); (case c3 => k_is); (case k3 => k_is); (case a4 => k_is); (case l4 => k_is); (case c4 => k_is); (case k4 => k_is)
    (case a5 => k_is); (case l5 => k_is); (case c5 => k_is); (case k5 => k_is); (case a6 => k_is); (case l6 => k_is); (case c6 => k_is); (case k6 => k_is)
    (case a7 => k_is); (case l7 => k_is); (case c7 => k_is); (case k7 => k_is); (case a8 => k_is); (case l8 => k_is); (case c8 => k_is); (case k8 => k_is)
    (case a9 => k_is); (case l9 => k_is); (case c9 => k_is); (case k9 => k_is); (case a10 => k_is); (case l10 => k_is); (case c10 => k_is); (case k10 => k_is)
    (case a11 => k_is); (case l11 => k_is); (case c11 => k_is); (case k11 => k_is); (case z1 => k_is); (case z2 => k_is); (case z3 => k_is); (case z4 => k_is)
    (case z5 => k_is)

import PyProof.Rows.All
import Wide.All
import OpenK.AllK
import Wide.FinOn
import HandS.ForMost
import HandS.ForExc
import HandS.IsInst
import HandS.Style
import HandS.Wide
import HandS.TupAny
import HandS.Codes
import KE.DatumIndex
import KE.KIntText
import PyProof.Rows.StrOr
import PyProof.Draws
import HandS.RaiseMore
import HandS.TryOnly
import HandS.ExcOwn
import HandS.CallSlots
import HandS.Flow
import HandS.HeadHook2
import HandS.HeadHook3
import HandS.Walk
import HandS.Ends
import HandS.HeadEnd
import HandS.Head2
import HandS.SuiteRaise
import HandS.RaiseFrom
import HandS.ExcValue
import KE.KExcStr
import HandS.Zip
import HandS.OwnIter
import KE.KDictZip
import HandS.Iter
import KE.IntTextLaws
import HandS.Head0
import HandS.Head1
import PySem.Challenge.RW_wirewary_k63_whole_texts_of_diaries
set_option Elab.async false
set_option linter.all false
set_option maxRecDepth 100000
set_option maxHeartbeats 4000000
/-! U1: one rule an operation, whatever the values: the reading names the values' kinds. -/
namespace U
open PySem PySem.Spec PyProof.Rows L2
abbrev S (l : List Nat) : Str := ⟨l.toArray⟩
theorem S_eq (x : Str) : S x.cps.toList = x := TL.mk_tl x
theorem S_inj {a b : List Nat} (h : S a = S b) : a = b := congrArg (fun x : Str => x.cps.toList) h
theorem S_len (a : List Nat) : (S a).length = a.length := by simp [S, Str.length]
theorem S_cat (a b : List Nat) : S a ++ S b = S (a ++ b) := TL.ext_tl (TL.tl_append (S a) (S b))
theorem S_dec {a b : List Nat} : decide (V.str (S a) = V.str (S b)) = decide (a = b) := by
  by_cases h : a = b
  · rw [h]; simp
  · rw [decide_eq_false h, decide_eq_false (fun e => h (S_inj (V.str.inj e)))]
section
variable {X : Cx} {K : PySem.W.Frag} {H : Hp} {Q : VK}
/-! ### + -/
def uAdd (K : PySem.W.Frag) : R2 := fun x y H Q => rI0 (fun i j => .int (i + j)) x y H Q ∨ (∃ i j, x = .str i ∧ y = .str j ∧ i.length + j.length ≤ sizeLine ∧ Q (.str (i ++ j)) H) ∨ rCat x y H Q ∨ rCatT K x y H Q
theorem op_uAdd : OpR X (binaryOp .Add) (uAdd X.K) := op_add.or (op_add_str.or (op_cat.or op_catT))
theorem uAdd_i {i j : Int} (q : Q (.int (i + j)) H) : uAdd K (.int i) (.int j) H Q := .inl ⟨i, j, rfl, rfl, q⟩
theorem uAdd_s {a b : List Nat} (h : a.length + b.length ≤ sizeLine) (q : Q (.str (S (a ++ b))) H) : uAdd K (.str (S a)) (.str (S b)) H Q :=
  .inr (.inl ⟨S a, S b, rfl, rfl, by rw [S_len, S_len]; exact h, by rw [S_cat]; exact q⟩)
theorem uAdd_l {l b : Addr} {xs zs : List V} (h1 : H l = some (.lst xs)) (h2 : H b = some (.lst zs)) (hz : xs.length + zs.length ≤ sizeLine) (q : ∀ p, H p = none → Q (.ref p) (upd H p (.lst (xs ++ zs)))) : uAdd K (.ref l) (.ref b) H Q :=
  .inr (.inr (.inl ⟨l, b, xs, zs, rfl, rfl, h1, h2, hz, q⟩))
theorem uAdd_t {l b : Addr} {xs zs : List V} (h1 : SqT K H l xs) (h2 : SqT K H b zs) (hx : xs ≠ []) (hz : xs.length + zs.length ≤ sizeLine) (q0 : zs = [] → Q (.ref l) H) (q : zs ≠ [] → ∀ p, H p = none → Q (.ref p) (upd H p (.tup (xs ++ zs)))) : uAdd K (.ref l) (.ref b) H Q :=
  .inr (.inr (.inr ⟨l, b, xs, zs, rfl, rfl, h1, h2, hx, hz, q0, q⟩))
/-! ### - // % ** -/
def uSub : R2 := rI0 fun i j => .int (i - j)
theorem op_uSub : OpR X (binaryOp .Sub) uSub := op_sub
theorem uSub_i {i j : Int} (q : Q (.int (i - j)) H) : uSub (.int i) (.int j) H Q := ⟨i, j, rfl, rfl, q⟩
def uDiv : R2 := rI CDivN fun i j => .int (i.fdiv j)
theorem op_uDiv : OpR X (binaryOp .FloorDiv) uDiv := op_fdivN
theorem uDiv_i {i j : Int} (h : 0 < j) (h2 : j < 1073741824) (q : Q (.int (i / j)) H) : uDiv (.int i) (.int j) H Q :=
  ⟨i, j, rfl, rfl, ⟨by omega, by omega⟩, by show Q (.int (i.fdiv j)) H; rw [Int.fdiv_eq_ediv_of_nonneg i (by omega)]; exact q⟩
def uMod : R2 := rI (fun _ j => j ≠ 0) fun i j => .int (i.fmod j)
theorem op_uMod : OpR X (binaryOp .Mod) uMod := op_modN
theorem uMod_i {i j : Int} (h : 0 < j) (q : Q (.int (i % j)) H) : uMod (.int i) (.int j) H Q :=
  ⟨i, j, rfl, rfl, by omega, by show Q (.int (i.fmod j)) H; rw [Int.fmod_eq_emod_of_nonneg i (by omega)]; exact q⟩
def uPow : R2 := rI CPow fun i j => .int (i ^ j.toNat)
theorem op_uPow : OpR X (binaryOp .Pow) uPow := op_pow
theorem uPow_i {i j : Int} (h : CPow i j) (q : Q (.int (i ^ j.toNat)) H) : uPow (.int i) (.int j) H Q := ⟨i, j, rfl, rfl, h, q⟩
def uNeg : V → Hp → VK → Prop := rU fun i => .int (-i)
theorem un_uNeg : UnR X (unaryOp .USub) uNeg := un_neg
theorem uNeg_i {i : Int} (q : Q (.int (-i)) H) : uNeg (.int i) H Q := ⟨i, rfl, q⟩
/-! ### * -/
def rMulS : R2 := fun x y H Q => ∃ (a : List Nat) (n : Nat), x = .str (S a) ∧ y = .int n ∧ 2 ≤ n ∧ a ≠ [] ∧ a.length * n ≤ sizeLine ∧ Q (.str (S (List.replicate n a).flatten)) H
theorem foldl_app : ∀ (n : Nat) (x acc : Array Nat), ((List.replicate n x).foldl (· ++ ·) acc).toList = acc.toList ++ (List.replicate n x.toList).flatten
  | 0, x, acc => by simp
  | n + 1, x, acc => by
    rw [List.replicate_succ, List.foldl_cons, foldl_app n x (acc ++ x), List.replicate_succ, List.flatten_cons]
    simp
theorem op_mulS : OpR X (binaryOp .Mult) rMulS := by
  intro pins s σ H x y v u Q I rx ry h
  obtain ⟨a, n, rfl, rfl, h2, ha, hz, q⟩ := h
  obtain ⟨t, rfl⟩ := rx
  obtain ⟨t2, rfl⟩ := ry
  have hlen : (S a).length = a.length := S_len a
  have h0 : 0 < a.length := List.length_pos_iff.mpr ha
  have hs : (sizeLine : Nat) = 16777216 := sizeLine_eq
  have hn : n ≤ 16777216 := by
    have : n ≤ a.length * n := Nat.le_mul_of_pos_left n h0
    omega
  have ha2 : a.length ≤ 16777216 := by
    have : a.length ≤ a.length * n := Nat.le_mul_of_pos_right _ (by omega)
    omega
  refine PySem.P.mul_str (by simp; omega) (fun _ _ => ?_) (fun _ _ => ?_) ?_
  · rw [hlen]
    intro hgt
    have h3 : (n : Int) * ((2 ^ 63 - 1) / n) ≤ 2 ^ 63 - 1 := Int.mul_ediv_self_le (by omega)
    have h4 : (n : Int) * ((2 ^ 63 - 1) / n) < n * a.length := Int.mul_lt_mul_of_pos_left hgt (by omega)
    have h5 : ((2 : Int) ^ 63 - 1) < n * ((2 ^ 63 - 1) / n) + n := Int.lt_mul_ediv_self_add (by omega)
    have h6 : n * a.length ≤ 16777216 := by
      rw [Nat.mul_comm, ← hs]
      exact hz
    have h7 : ((n : Int) * a.length) = ((n * a.length : Nat) : Int) := by simp
    rw [h7] at h4
    omega
  · rw [hlen]
    rw [Int.toNat_natCast]
    unfold Builtin.Str.tooLong
    simp
    omega
  · rw [if_neg (by omega)]
    rw [hlen]
    have hc : ((n : Int) == 1 || a.length == 0) = false := by
      simp only [Bool.or_eq_false_iff, beq_eq_false_iff_ne]
      exact ⟨by omega, by omega⟩
    rw [hc]
    simp only [Bool.false_eq_true, if_false]
    have e : (⟨(List.replicate (n : Int).toNat (S a).cps).foldl (· ++ ·) #[]⟩ : Str) = S (List.replicate n a).flatten := by
      refine TL.ext_tl ?_
      show ((List.replicate (n : Int).toNat (S a).cps).foldl (· ++ ·) #[]).toList = _
      rw [foldl_app, Int.toNat_natCast]
      simp
    rw [e]
    refine ⟨?_, .str _, H, I.tok _, ⟨_, rfl⟩, q⟩
    rw [S_len]
    simp only [List.length_flatten, List.map_replicate, List.sum_replicate_nat]
    rw [Nat.mul_comm]
    exact hz
def uMul : R2 := fun x y H Q => rI (fun i j => CMul i j ∨ CMulW i j) (fun i j => .int (i * j)) x y H Q ∨ rMulS x y H Q ∨ rRep x y H Q
theorem op_mulX : OpR X (binaryOp .Mult) (rI (fun i j => CMul i j ∨ CMulW i j) fun i j => .int (i * j)) := by
  intro pins s σ H x y v u Q I rx ry h
  obtain ⟨i, j, e1, e2, c | c, q⟩ := h
  · exact op_mul pins s σ H x y v u Q I rx ry ⟨i, j, e1, e2, c, q⟩
  · exact op_mulW pins s σ H x y v u Q I rx ry ⟨i, j, e1, e2, c, q⟩
theorem op_uMul : OpR X (binaryOp .Mult) uMul := op_mulX.or (op_mulS.or op_rep)
theorem uMul_i {i j : Int} (h : -(2 ^ 64) < j ∧ j < 2 ^ 64) (q : Q (.int (i * j)) H) : uMul (.int i) (.int j) H Q := .inl ⟨i, j, rfl, rfl, .inl (.inr h), q⟩
theorem uMul_w {i j : Int} (h : CMulW i j) (q : Q (.int (i * j)) H) : uMul (.int i) (.int j) H Q := .inl ⟨i, j, rfl, rfl, .inr h, q⟩
theorem uMul_s {a : List Nat} {n : Nat} (h2 : 2 ≤ n) (ha : a ≠ []) (hz : a.length * n ≤ sizeLine) (q : Q (.str (S (List.replicate n a).flatten)) H) : uMul (.str (S a)) (.int n) H Q :=
  .inr (.inl ⟨a, n, rfl, rfl, h2, ha, hz, q⟩)
theorem uMul_l {l : Addr} {k : Int} {xs : List V} (h : H l = some (.lst xs)) (h1 : -(2 ^ 63) ≤ k) (h2 : k < 2 ^ 63) (hz : xs.length * k.toNat ≤ sizeLine) (q : ∀ p, H p = none → Q (.ref p) (upd H p (.lst (List.replicate k.toNat xs).flatten))) : uMul (.ref l) (.int k) H Q :=
  .inr (.inr ⟨l, k, xs, rfl, rfl, h, h1, h2, hz, q⟩)
/-- x *= y -/
def ipMul : TIp := fun x y H Q => rI CMulW (fun i j => .int (i * j)) x y H Q
theorem ip_uMul : PIp X .Mult ipMul := by
  intro pins s σ H x y v u Q I rx ry h
  obtain ⟨i, j, rfl, rfl, c, q⟩ := h
  obtain ⟨t, rfl⟩ := rx
  obtain ⟨t', rfl⟩ := ry
  exact imul_int ⟨.int _, H, I.tok _, ⟨_, rfl⟩, q⟩ c.ok
def ipAdd : TIp := ipI fun i j => i + j
theorem ip_uAdd : PIp X .Add ipAdd := ip_add
def ipSub : TIp := ipI fun i j => i - j
theorem ip_uSub : PIp X .Sub ipSub := ip_sub
theorem ipAdd_i {i j : Int} (q : Q (.int (i + j)) H) : ipAdd (.int i) (.int j) H Q := ⟨i, j, rfl, rfl, q⟩
theorem ipSub_i {i j : Int} (q : Q (.int (i - j)) H) : ipSub (.int i) (.int j) H Q := ⟨i, j, rfl, rfl, q⟩
theorem ipMul_i {i j : Int} (h : CMulW i j) (q : Q (.int (i * j)) H) : ipMul (.int i) (.int j) H Q := ⟨i, j, rfl, rfl, h, q⟩
end
end U
namespace U
open PySem PySem.Spec PyProof.Rows L2
section
variable {X : Cx} {K : PySem.W.Frag} {H : Hp} {Q : VK}
/-! ### == and != -/
/-- two lists of unlike lengths, two empty ones -/
def rEqLen (K : PySem.W.Frag) (g : Bool → Bool) : R2 := fun x y H Q => ∃ a b xs ys, x = .ref a ∧ y = .ref b ∧ SqL K H a xs ∧ SqL K H b ys ∧ (xs.length = ys.length → xs = []) ∧ Q (.bl (g (decide (xs.length = ys.length)))) H
theorem op_eqLen (hu : X.A.units < cLine) : OpR X (compareOp .Eq) (rEqLen X.K id) := by
  intro pins s σ H x y v u Q I rx ry h
  obtain ⟨a, b, xs, ys, rfl, rfl, h1, h2, h0, q⟩ := h
  cases rx
  cases ry
  obtain ⟨i1, r1, p1, _⟩ := I.list h1
  obtain ⟨i2, r2, p2, _⟩ := I.list h2
  have l1 := r1.length
  have l2 := r2.length
  by_cases hl : xs.length = ys.length
  · have hx := h0 hl
    rw [hl, decide_eq_true rfl] at q
    refine SeqAt.eq_listAt (e := fun _ => true) p1.isList p2.isList (by simp; omega) hu (fun j hj _ => ?_) ⟨.bl _, H, I, rfl, ?_⟩
    · rw [hx] at l1
      simp at l1 hj
      omega
    · have e : (List.range i1.toArray.size).all (fun _ => true) = true := by simp
      rw [e]
      exact q
  · rw [decide_eq_false hl] at q
    exact SeqAt.eq_list_lengthsAt p1.isList p2.isList (by simp; omega) hu ⟨.bl _, H, I, rfl, q⟩
theorem op_neLen (hu : X.A.units < cLine) : OpR X (compareOp .NotEq) (rEqLen X.K not) := by
  intro pins s σ H x y v u Q I rx ry h
  obtain ⟨a, b, xs, ys, rfl, rfl, h1, h2, h0, q⟩ := h
  cases rx
  cases ry
  obtain ⟨i1, r1, p1, _⟩ := I.list h1
  obtain ⟨i2, r2, p2, _⟩ := I.list h2
  have l1 := r1.length
  have l2 := r2.length
  by_cases hl : xs.length = ys.length
  · have hx := h0 hl
    rw [hl, decide_eq_true rfl] at q
    refine SeqAt.RcNeAt.lists (e := fun _ => true) p1.isList p2.isList (by simp; omega) hu (fun j hj _ => ?_) _ _ _ _ ⟨.bl _, H, I, rfl, ?_⟩
    · rw [hx] at l1
      simp at l1 hj
      omega
    · have e : (List.range i1.toArray.size).all (fun _ => true) = true := by simp
      rw [e]
      exact q
  · rw [decide_eq_false hl] at q
    exact SeqAt.RcNeAt.lists_lengths p1.isList p2.isList (by simp; omega) hu _ _ _ _ ⟨.bl _, H, I, rfl, q⟩
def uEq (K : PySem.W.Frag) : R2 := fun x y H Q => rEq x y H Q ∨ rEqLen K id x y H Q ∨ rEqD K x y H Q
def uNe (K : PySem.W.Frag) : R2 := fun x y H Q => rNe x y H Q ∨ rEqLen K not x y H Q ∨ rNeD K x y H Q
theorem op_uEq {k : Nat} (hr : Room k X.A) : OpR X (compareOp .Eq) (uEq X.K) := op_eq.or ((op_eqLen hr.units0).or (op_eqD hr.units))
theorem op_uNe {k : Nat} (hr : Room k X.A) : OpR X (compareOp .NotEq) (uNe X.K) := op_ne.or ((op_neLen hr.units0).or (op_neD hr.units))
theorem uEq_v {x y : V} (h : scal x y = true) (q : Q (.bl (decide (x = y))) H) : uEq K x y H Q := .inl ⟨h, q⟩
theorem uNe_v {x y : V} (h : scal x y = true) (q : Q (.bl (!decide (x = y))) H) : uNe K x y H Q := .inl ⟨h, q⟩
theorem dec_int {i j : Int} : decide (V.int i = V.int j) = decide (i = j) := by
  by_cases h : i = j
  · rw [h]; simp
  · rw [decide_eq_false h, decide_eq_false (fun e => h (V.int.inj e))]
theorem uEq_i {i j : Int} (q : Q (.bl (decide (i = j))) H) : uEq K (.int i) (.int j) H Q := uEq_v rfl (by rw [dec_int]; exact q)
theorem uNe_i {i j : Int} (q : Q (.bl (!decide (i = j))) H) : uNe K (.int i) (.int j) H Q := uNe_v rfl (by rw [dec_int]; exact q)
theorem uEq_s {a b : List Nat} (q : Q (.bl (decide (a = b))) H) : uEq K (.str (S a)) (.str (S b)) H Q := uEq_v rfl (by rw [S_dec]; exact q)
theorem uNe_s {a b : List Nat} (q : Q (.bl (!decide (a = b))) H) : uNe K (.str (S a)) (.str (S b)) H Q := uNe_v rfl (by rw [S_dec]; exact q)
/-- a list against an empty one -/
theorem uEq_l0 {a b : Addr} {xs : List V} (h1 : SqL K H a xs) (h2 : SqL K H b []) (q : Q (.bl xs.isEmpty) H) : uEq K (.ref a) (.ref b) H Q :=
  .inr (.inl ⟨a, b, xs, [], rfl, rfl, h1, h2, fun e => List.length_eq_zero_iff.mp e, by cases xs <;> simpa using q⟩)
theorem uNe_l0 {a b : Addr} {xs : List V} (h1 : SqL K H a xs) (h2 : SqL K H b []) (q : Q (.bl (!xs.isEmpty)) H) : uNe K (.ref a) (.ref b) H Q :=
  .inr (.inl ⟨a, b, xs, [], rfl, rfl, h1, h2, fun e => List.length_eq_zero_iff.mp e, by cases xs <;> simpa using q⟩)
theorem uEq_d {x y : V} {d e : PyData} (h1 : Dp K H x d) (h2 : Dp K H y e) (s1 : SeqAt.shaped d = true) (s2 : SeqAt.shaped e = true) (q : Q (.bl (PyData.eqv d e)) H) : uEq K x y H Q := .inr (.inr ⟨d, e, h1, h2, s1, s2, q⟩)
theorem uNe_d {x y : V} {d e : PyData} (h1 : Dp K H x d) (h2 : Dp K H y e) (s1 : SeqAt.shaped d = true) (s2 : SeqAt.shaped e = true) (q : Q (.bl (!PyData.eqv d e)) H) : uNe K x y H Q := .inr (.inr ⟨d, e, h1, h2, s1, s2, q⟩)
/-! ### is None -/
def uIsN : R2 := fun x y H Q => y = .non ∧ Q (.bl (decide (x = .non))) H
def uNotN : R2 := fun x y H Q => y = .non ∧ Q (.bl (!decide (x = .non))) H
theorem op_uIsN : OpR X (compareOp .Is) uIsN := op_isN
theorem op_uNotN : OpR X (compareOp .IsNot) uNotN := op_notN
theorem uIsN_v {x : V} (q : Q (.bl (decide (x = .non))) H) : uIsN x .non H Q := ⟨rfl, q⟩
theorem uNotN_v {x : V} (q : Q (.bl (!decide (x = .non))) H) : uNotN x .non H Q := ⟨rfl, q⟩
/-! ### < <= > >= -/
def uLt : R2 := fun x y H Q => rI0 (fun i j => .bl (decide (i < j))) x y H Q ∨ (∃ i j, x = .str i ∧ y = .str j ∧ Q (.bl (decide (i.cps.toList < j.cps.toList))) H)
def uLe : R2 := fun x y H Q => rI0 (fun i j => .bl (decide (i ≤ j))) x y H Q ∨ (∃ i j, x = .str i ∧ y = .str j ∧ Q (.bl (!decide (j.cps.toList < i.cps.toList))) H)
def uGt : R2 := fun x y H Q => rI0 (fun i j => .bl (decide (j < i))) x y H Q ∨ (∃ i j, x = .str i ∧ y = .str j ∧ Q (.bl (decide (j.cps.toList < i.cps.toList))) H)
def uGe : R2 := fun x y H Q => rI0 (fun i j => .bl (decide (j ≤ i))) x y H Q ∨ (∃ i j, x = .str i ∧ y = .str j ∧ Q (.bl (!decide (i.cps.toList < j.cps.toList))) H)
theorem op_uLt : OpR X (compareOp .Lt) uLt := op_lt.or op_lt_str
theorem op_uLe : OpR X (compareOp .LtE) uLe := op_le.or op_le_str
theorem op_uGt : OpR X (compareOp .Gt) uGt := op_gt.or op_gt_str
theorem op_uGe : OpR X (compareOp .GtE) uGe := op_ge.or op_ge_str
theorem uLt_i {i j : Int} (q : Q (.bl (decide (i < j))) H) : uLt (.int i) (.int j) H Q := .inl ⟨i, j, rfl, rfl, q⟩
theorem uLe_i {i j : Int} (q : Q (.bl (decide (i ≤ j))) H) : uLe (.int i) (.int j) H Q := .inl ⟨i, j, rfl, rfl, q⟩
theorem uGt_i {i j : Int} (q : Q (.bl (decide (j < i))) H) : uGt (.int i) (.int j) H Q := .inl ⟨i, j, rfl, rfl, q⟩
theorem uGe_i {i j : Int} (q : Q (.bl (decide (j ≤ i))) H) : uGe (.int i) (.int j) H Q := .inl ⟨i, j, rfl, rfl, q⟩
/-- one sign against one sign -/
theorem uLe_c {a b : Nat} (q : Q (.bl (decide (a ≤ b))) H) : uLe (.str (S [a])) (.str (S [b])) H Q := by
  refine .inr ⟨_, _, rfl, rfl, ?_⟩
  have e0 : ([b] < [a]) ↔ b < a := by
    rw [List.cons_lt_cons_iff]
    simp
  have e : (!decide ((S [b]).cps.toList < (S [a]).cps.toList)) = decide (a ≤ b) := by
    show (!decide ([b] < [a])) = _
    by_cases h : a ≤ b
    · rw [decide_eq_true h, decide_eq_false (fun q => by have := e0.mp q; omega)]
      rfl
    · rw [decide_eq_false h, decide_eq_true (e0.mpr (by omega))]
      rfl
  rw [e]
  exact q
/-! ### in, not in -/
/-- a text in a text -/
def uIn (K : PySem.W.Frag) : R2 := fun x y H Q => (∃ (c : Nat) (z : Str), x = .str ⟨#[c]⟩ ∧ y = .str z ∧ Q (.bl (decide (c ∈ z.cps.toList))) H) ∨ rIn K false x y H Q
def uNin (K : PySem.W.Frag) : R2 := fun x y H Q => (∃ (c : Nat) (z : Str), x = .str ⟨#[c]⟩ ∧ y = .str z ∧ Q (.bl (!decide (c ∈ z.cps.toList))) H) ∨ rIn K true x y H Q
theorem op_uIn : OpR X (compareOp .In) (uIn X.K) := op_in_sign.or op_in_seq
theorem op_uNin : OpR X (compareOp .NotIn) (uNin X.K) := op_notIn_sign.or op_notIn_seq
theorem uIn_c {c : Nat} {z : List Nat} (q : Q (.bl (decide (c ∈ z))) H) : uIn K (.str (S [c])) (.str (S z)) H Q := .inl ⟨c, S z, rfl, rfl, q⟩
theorem uNin_c {c : Nat} {z : List Nat} (q : Q (.bl (!decide (c ∈ z))) H) : uNin K (.str (S [c])) (.str (S z)) H Q := .inl ⟨c, S z, rfl, rfl, q⟩
theorem uIn_l {x : V} {p : Addr} {xs : List V} (h : SqL K H p xs) (hx : flatV x = true) (ha : xs.all flatV = true) (q : Q (.bl (inV x xs)) H) : uIn K x (.ref p) H Q := .inr ⟨p, xs, rfl, .inl h, hx, ha, q⟩
theorem uIn_t {x : V} {p : Addr} {xs : List V} (h : SqT K H p xs) (hx : flatV x = true) (ha : xs.all flatV = true) (q : Q (.bl (inV x xs)) H) : uIn K x (.ref p) H Q := .inr ⟨p, xs, rfl, .inr h, hx, ha, q⟩
theorem uNin_l {x : V} {p : Addr} {xs : List V} (h : SqL K H p xs) (hx : flatV x = true) (ha : xs.all flatV = true) (q : Q (.bl (!inV x xs)) H) : uNin K x (.ref p) H Q := .inr ⟨p, xs, rfl, .inl h, hx, ha, q⟩
theorem uNin_t {x : V} {p : Addr} {xs : List V} (h : SqT K H p xs) (hx : flatV x = true) (ha : xs.all flatV = true) (q : Q (.bl (!inV x xs)) H) : uNin K x (.ref p) H Q := .inr ⟨p, xs, rfl, .inr h, hx, ha, q⟩
/-! ### subscripts, slices -/
abbrev uIx (K : PySem.W.Frag) : R2 := rIx K
theorem ix_u : IxR X (rIx X.K) := ix_seq
theorem uIx_l {p : Addr} {xs : List V} {i : Int} {v : V} (h : SqL K H p xs) (ha : atI xs i = some v) (q : Q v H) : rIx K (.ref p) (.int i) H Q := .inl ⟨p, xs, i, v, rfl, rfl, h, ha, q⟩
theorem uIx_t {p : Addr} {xs : List V} {i : Int} {v : V} (h : SqT K H p xs) (ha : atI xs i = some v) (q : Q v H) : rIx K (.ref p) (.int i) H Q := .inr (.inl ⟨p, xs, i, v, rfl, rfl, h, ha, q⟩)
theorem uIx_s {z : List Nat} {i : Int} {c : Nat} (h : z.length ≤ sizeLine) (ha : atI z i = some c) (q : Q (.str (S [c])) H) : rIx K (.str (S z)) (.int i) H Q := .inr (.inr ⟨S z, i, c, rfl, rfl, by rw [S_len]; exact h, ha, q⟩)
def cutL (z : List Nat) (lo hi : Option Int) : List Nat := (z.drop (HT.sIx z.length 0 lo)).take (HT.sIx z.length z.length hi - HT.sIx z.length 0 lo)
theorem cutS_S (z : List Nat) (lo hi : Option Int) : cutS (S z) lo hi = S (cutL z lo hi) := by
  unfold cutS cutL
  rw [S_len]
def uSl (K : PySem.W.Frag) : V → Option Int → Option Int → Hp → VK → Prop := fun x lo hi H Q => rSlS x lo hi H Q ∨ rSlL K x lo hi H Q ∨ rSlA K x lo hi H Q
theorem sl_u : SlR X (uSl X.K) := sl_str.or (sl_list.or sl_tupA)
theorem uSl_s {z : List Nat} {lo hi : Option Int} (h : z.length ≤ sizeLine) (q : Q (.str (S (cutL z lo hi))) H) : uSl K (.str (S z)) lo hi H Q := .inl ⟨S z, rfl, by rw [S_len]; exact h, by rw [cutS_S]; exact q⟩
theorem uSl_l {a : Addr} {xs : List V} {lo hi : Option Int} (h : SqL K H a xs) (q : ∀ p, H p = none → Q (.ref p) (upd H p (.lst (cutV xs lo hi)))) : uSl K (.ref a) lo hi H Q := .inr (.inl ⟨a, xs, rfl, h, q⟩)
end
end U
namespace U
open PySem PySem.Spec PyProof.Rows L2
/-! ### the limit on digits: the statics say nothing -/
abbrev digName : Str := "sys.int_max_str_digits"
theorem noDigits_of {K : PySem.W.Frag} {h : Heap} (kin : K.In h) (lim : h.NoLimit) (look : PySem.W.nsIn K cStatics digName = some none) : h.NoDigits := by
  obtain ⟨mc, ns, _⟩ := lim
  refine ⟨mc, ns, ?_⟩
  obtain ⟨ob, ents, ep, at_, dat, _, find⟩ := ns
  unfold PySem.W.nsIn at look
  split at look
  · rename_i q
    have both := kin _ _ q
    rw [at_] at both
    cases both
    cases dat
    split at look
    · cases look
    · rename_i he
      have e := find digName
      rw [← e]
      unfold nsFind findBy
      rw [← Array.find?_toList, he]
      rfl
  · cases look
theorem Inv_noDigits {X : Cx} {pins : List (Addr × Obj)} {σ : L2.St} {H : Hp} {s : Shared} (I : Inv X pins σ H s) (look : PySem.W.nsIn X.K cStatics digName = some none) : s.heap.NoDigits :=
  noDigits_of I.kIn I.nolimit look
section
variable {X : Cx} {K : PySem.W.Frag} {H : Hp} {Q : VK}
/-! ### len -/
abbrev uLen (K : PySem.W.Frag) : List V → Hp → VK → Prop := fun xs H Q => ∃ x n, xs = [x] ∧ LenV K x H n ∧ Q (.int n) H
theorem cr_uLen : CallR X (.builtin "len") (uLen X.K) := call_len
theorem uLen_l {a : Addr} {xs : List V} (h : SqL K H a xs) (q : Q (.int xs.length) H) : uLen K [.ref a] H Q := ⟨_, _, rfl, .inl ⟨xs, h, rfl⟩, q⟩
theorem uLen_t {a : Addr} {xs : List V} (h : SqT K H a xs) (q : Q (.int xs.length) H) : uLen K [.ref a] H Q := ⟨_, _, rfl, .inr ⟨xs, h, rfl⟩, q⟩
theorem uLen_s {a : List Nat} (h : a.length ≤ sizeLine) (q : Q (.int a.length) H) : uLen K [.str (S a)] H Q := ⟨_, _, rfl, ⟨by rw [S_len]; exact h, rfl⟩, by rw [S_len]; exact q⟩
/-! ### int -/
theorem wp_text4300 {M : Model} {A : Around} {E : Value → Shared → Prop} {s : Shared} {Q : Value → Shared → Prop} {v : Value} {text : List Nat} {n : Int} {mc : Str → Option Value}
    (ns : s.heap.Ns cStatics mc) (no : mc digName = none)
    (hs : ¬ (text.takeWhile (· != 0)).length ≤ 640) (hr : (int_private% "readNumeral") 4300 10 (text.takeWhile (· != 0)) = (int_private% "Numeral.value") n)
    (ha : ((text.takeWhile (· != 0)).length == text.length) = true) (h : Q (.int n s.toks) { s with toks := s.toks + 1 }) :
    wpAny M A ((int_private% "intFromText") v text 10) Q E s := by
  obtain ⟨hp, g, d, tk, os⟩ := s
  have lim : ∀ {Q : Nat → Shared → Prop}, Q 4300 ⟨hp, g, d, tk, os⟩ → wpAny M A Builtin.intMaxStrDigits Q E ⟨hp, g, d, tk, os⟩ := fun {Q} q => by
    unfold Builtin.intMaxStrDigits
    refine wpAny_bind (wpAny_nsGet ns ?_)
    rw [no]
    exact wpAny_pure q
  repeat (any_goals (first
    | assumption
    | (with_reducible refine wpAny_ite_false (decide_eq_false hs) ?_)
    | (with_reducible refine wpAny_ite_true (decide_eq_true ha) ?_)
    | (with_reducible refine lim ?_)
    | wp_step))
  all_goals (try rw [hr])
  all_goals (try dsimp only)
  repeat (any_goals (first
    | assumption
    | (with_reducible refine wpAny_ite_true (decide_eq_true ha) ?_)
    | wp_step))
theorem gives_seen {x : Str} {u : Tok} {n : Int} (hl : (numSeenOf x).length ≤ 640) (hn : intText? x = some n) : Gives (Builtin.«int.__new__» ⟨[.type "int", .str x u], []⟩) (.int n) :=
  .of_wp fun M A E s Q h => by
    obtain ⟨hp, g, d, tk, os⟩ := s
    have f1 := F.conv_sub_int
    have f2 := F.madeHere_int
    have f3 := PySem.W.KIN.str_int
    have f4 := PySem.W.KIN.str_idx
    have f5 := PySem.W.KIN.str_trunc
    have f6 : typeOf (.str x u) = pure (.type "str") := rfl
    have hr : (int_private% "readNumeral") 0 10 (numSeenOf x) = (int_private% "Numeral.value") n ∧ ((numSeenOf x).length == (numTextOf x).length) = true := by
      rcases read0 x hl with ⟨m, h1, h2, h3⟩ | ⟨h1, _⟩
      · rw [hn] at h1
        injection h1 with h1
        subst h1
        exact ⟨h3, h2⟩
      · rw [hn] at h1
        cases h1
    have hk := PySem.W.KIN.Hid.mk (And.intro hl hr)
    clear hr hl hn
    repeat (any_goals (first
      | assumption
      | ((with_reducible show wpAny _ _ ((int_private% "intFromText") _ _ _) _ _ _); refine PySem.W.KIN.wp_text hk.out.1 hk.out.2.1 hk.out.2.2 ?_)
      | wp_step))
    all_goals first | exact ⟨_, rfl, h⟩ | skip
theorem meets_text4300 {x : Str} {u : Tok} {n : Int} (hl : ¬ (numSeenOf x).length ≤ 640) (hz : x.length ≤ sizeLine) (hn : intText? x = some n) :
    Meets (Builtin.«int.__new__» ⟨[.type "int", .str x u], []⟩) (fun _ R s => s.heap.NoDigits ∧ R (.ok (.ret (.int n s.toks))) { s with toks := s.toks + 1 }) :=
  .of_wp fun prog w A R s h => by
    obtain ⟨hp, g, d, tk, os⟩ := s
    obtain ⟨⟨mc, ns, no⟩, h⟩ := h
    have f1 := F.conv_sub_int
    have f2 := F.madeHere_int
    have f3 := PySem.W.KIN.str_int
    have f4 := PySem.W.KIN.str_idx
    have f5 := PySem.W.KIN.str_trunc
    have f6 : typeOf (.str x u) = pure (.type "str") := rfl
    have hr : (int_private% "readNumeral") 4300 10 (numSeenOf x) = (int_private% "Numeral.value") n ∧ ((numSeenOf x).length == (numTextOf x).length) = true := by
      rcases read4300 x hz with ⟨m, h1, h2, h3⟩ | ⟨h1, _⟩
      · rw [hn] at h1
        injection h1 with h1
        subst h1
        exact ⟨h3, h2⟩
      · rw [hn] at h1
        cases h1
    have hk := PySem.W.KIN.Hid.mk (And.intro hl hr)
    clear hr hl hn hz
    repeat (any_goals (first
      | assumption
      | ((with_reducible show wpAny _ _ ((int_private% "intFromText") _ _ _) _ _ _); refine wp_text4300 ns no hk.out.1 hk.out.2.1 hk.out.2.2 ?_)
      | wp_step))
    all_goals first | exact ⟨_, rfl, h⟩ | skip
/-- int(text), to 4300 digits -/
theorem cr_intText (look : PySem.W.nsIn X.K cStatics digName = some none) : CallR X (.type "int") (fun xs H Q => ∃ (a : Str) (n : Int), xs = [.str a] ∧ intText? a = some n ∧ a.length ≤ sizeLine ∧ Q (.int n) H) := by
  intro pins s σ H xs us Q I rs h
  obtain ⟨a, n, rfl, hn, hl, q⟩ := h
  cases rs with
  | cons r1 rs =>
    cases rs
    obtain ⟨t, rfl⟩ := r1
    by_cases hs : (numSeenOf a).length ≤ 640
    · by_cases h6 : a.length ≤ 640
      · exact PySem.W.KIN.call_text hn h6 ⟨.int n, H, I.tok _, ⟨_, rfl⟩, q⟩
      · refine call_int_1 (gives_seen hs hn).meets (show (Made.int n).post _ s from ⟨rfl, ⟨.int n, H, I.tok _, ⟨_, rfl⟩, q⟩⟩)
    · exact call_int_1 (meets_text4300 hs hl hn) ⟨Inv_noDigits I look, rfl, ⟨.int n, H, I.tok _, ⟨_, rfl⟩, q⟩⟩
end
end U
namespace U
open PySem PySem.Spec PyProof.Rows L2
section
variable {X : Cx} {K : PySem.W.Frag} {H : Hp} {Q : VK}
/-- the signs of a number -/
def num (z : Int) : List Nat := (toString z).toList.map Char.toNat
theorem num_S (z : Int) : ((toString z : String) : Str) = S (num z) := by
  refine TL.ext_tl ?_
  exact PyProof.Rows.signs_ofString (toString z)
/-! ### int, str, abs, tuple, list -/
def uInt : List V → Hp → VK → Prop := fun xs H Q => ((∃ i, xs = [.int i] ∧ Q (.int i) H) ∨ ∃ k, xs = [.bl k] ∧ Q (.int (if k then 1 else 0)) H) ∨ (∃ (a : Str) (n : Int), xs = [.str a] ∧ intText? a = some n ∧ a.length ≤ sizeLine ∧ Q (.int n) H)
theorem cr_uInt (look : PySem.W.nsIn X.K cStatics digName = some none) : CallR X (.type "int") uInt := call_int1.or (cr_intText look)
theorem uInt_i {i : Int} (q : Q (.int i) H) : uInt [.int i] H Q := .inl (.inl ⟨i, rfl, q⟩)
theorem uInt_s {a : List Nat} {n : Int} (hn : intText? (S a) = some n) (hl : a.length ≤ sizeLine) (q : Q (.int n) H) : uInt [.str (S a)] H Q := .inr ⟨_, n, rfl, hn, by rw [S_len]; exact hl, q⟩
def uStr : List V → Hp → VK → Prop := fun xs H Q => (∃ i, xs = [.int i] ∧ i.natAbs < 10 ^ 4300 ∧ Q (.str (S (num i))) H) ∨ (∃ a, xs = [.str a] ∧ Q (.str a) H)
theorem cr_strInt (hc : X.calm = true) (look : PySem.W.nsIn X.K cStatics digName = some none) : CallR X (.type "str") (fun xs H Q => ∃ i, xs = [.int i] ∧ i.natAbs < 10 ^ 4300 ∧ Q (.str (S (num i))) H) := by
  intro pins s σ H xs us Q I rs h
  obtain ⟨i, rfl, hn, q⟩ := h
  cases rs with
  | cons r1 rs =>
    cases rs
    obtain ⟨t, rfl⟩ := r1
    refine str_of_int_or (I.ok.hd hc) (Inv_noDigits I look) (fun _ => ⟨.str _, H, I.tok _, ⟨_, rfl⟩, by rw [← num_S] at q; exact q⟩) (fun hge => ?_)
    exfalso
    revert hn hge
    generalize 10 ^ 4300 = N
    omega
theorem cr_uStr (hc : X.calm = true) (look : PySem.W.nsIn X.K cStatics digName = some none) : CallR X (.type "str") uStr := (cr_strInt hc look).or SkE.call_str_str
theorem uStr_i {i : Int} (h : i.natAbs < 10 ^ 4300) (q : Q (.str (S (num i))) H) : uStr [.int i] H Q := .inl ⟨i, rfl, h, q⟩
theorem uStr_s {a : Str} (q : Q (.str a) H) : uStr [.str a] H Q := .inr ⟨a, rfl, q⟩
def uAbs : List V → Hp → VK → Prop := fun xs H Q => ∃ i, xs = [.int i] ∧ Q (.int (if i < 0 then -i else i)) H
theorem cr_uAbs : CallR X (.builtin "abs") uAbs := call_abs
theorem uAbs_i {i : Int} (q : ∀ j : Int, 0 ≤ j → Q (.int j) H) : uAbs [.int i] H Q := ⟨i, rfl, q _ (by split <;> omega)⟩
def uTup (K : PySem.W.Frag) : List V → Hp → VK → Prop := fun xs H Q => ∃ p ys, xs = [.ref p] ∧ ((SqL K H p ys ∧ ∀ l, H l = none → Q (.ref l) (upd H l (.tup ys))) ∨ (SqT K H p ys ∧ Q (.ref p) H))
theorem cr_uTup : CallR X (.type "tuple") (uTup X.K) := call_tuple_of
theorem uTup_l {p : Addr} {ys : List V} (h : SqL K H p ys) (q : ∀ l, H l = none → Q (.ref l) (upd H l (.tup ys))) : uTup K [.ref p] H Q := ⟨p, ys, rfl, .inl ⟨h, q⟩⟩
theorem uTup_t {p : Addr} {ys : List V} (h : SqT K H p ys) (q : Q (.ref p) H) : uTup K [.ref p] H Q := ⟨p, ys, rfl, .inr ⟨h, q⟩⟩
def uLst (K : PySem.W.Frag) : List V → Hp → VK → Prop := fun xs H Q => ∃ p ys, xs = [.ref p] ∧ (SqL K H p ys ∨ SqT K H p ys) ∧ ∀ l, H l = none → Q (.ref l) (upd H l (.lst ys))
theorem cr_uLst : CallR X (.type "list") (uLst X.K) := call_list_of
theorem uLst_l {p : Addr} {ys : List V} (h : SqL K H p ys) (q : ∀ l, H l = none → Q (.ref l) (upd H l (.lst ys))) : uLst K [.ref p] H Q := ⟨p, ys, rfl, .inl h, q⟩
theorem uLst_t {p : Addr} {ys : List V} (h : SqT K H p ys) (q : ∀ l, H l = none → Q (.ref l) (upd H l (.lst ys))) : uLst K [.ref p] H Q := ⟨p, ys, rfl, .inr h, q⟩
/-! ### repr -/
def uRepr (K : PySem.W.Frag) : List V → Hp → VK → Prop := fun xs H Q => (xs = [.non] ∧ Q (.str "None") H) ∨
  ∃ a d, xs = [.ref a] ∧ Dp K H (.ref a) d ∧ d.showable = true ∧ d.hasDict = false ∧ d.depth ≤ 60 ∧ d.shown.length ≤ sizeLine ∧ Q (.str d.shown) H
theorem cr_uRepr {k : Nat} (hg : X.A.guards = some []) (hr : Room k X.A) : CallR X (.builtin "repr") (uRepr X.K) := by
  intro pins s σ H xs us Q I rs h
  rcases h with ⟨rfl, q⟩ | ⟨a, d, rfl, hd, hs, hn, hp, hz, q⟩
  · cases rs with
    | cons r1 rs =>
      cases rs
      cases r1
      exact PySem.P.repr_of_none ⟨.str _, H, I.tok _, ⟨_, rfl⟩, q⟩
  · cases rs with
    | cons r1 rs =>
      cases rs
      obtain ⟨as, r⟩ := hd.reads I d _ _ r1
      cases r1
      refine repr_of_reads' r hs (fun e => by rw [hn] at e; cases e) hg (by have := hr.units; omega) (fun _ _ e => e) (fun h' u tk hk => ?_) hz
      exact ⟨.str _, H, I.kept (t' := tk) hk, ⟨u, rfl⟩, q⟩
/-! ### all, any -/
abbrev uAll (K : PySem.W.Frag) : List V → Hp → VK → Prop := rAll K
theorem uAll_l {a : Addr} {bs : List Bool} (h : SqL K H a (bs.map V.bl)) (q : Q (.bl (bs.all id)) H) : rAll K [.ref a] H Q := ⟨a, bs, rfl, h, q⟩
theorem uAny_l {a : Addr} {bs : List Bool} (h : SqL K H a (bs.map V.bl)) (q : Q (.bl (bs.any id)) H) : rAny K [.ref a] H Q := ⟨a, bs, rfl, h, q⟩
/-! ### isinstance against a built-in type -/
theorem tyx_l {a : Addr} {xs : List V} (h : SqL K H a xs) : TyX K H (.ref a) (.type "list") := by
  rcases h with (h | ⟨o, h⟩) | ⟨o, its, n, h, c, _⟩
  · exact .base (.lst h)
  · exact .base (.frz h)
  · exact .kList h c
theorem tyx_t {a : Addr} {xs : List V} (h : SqT K H a xs) : TyX K H (.ref a) (.type "tuple") := by
  rcases h with (h | ⟨o, h⟩) | ⟨o, its, n, h, c, _⟩
  · exact .base (.tup h)
  · exact .fTuple h
  · exact .kTuple h c
theorem uIsi_ty {x : V} {a n : String} {b : Bool} (ty : TyX K H x (.type a)) (h : kitB a n = some b) (q : Q (.bl b) H) : rIsi K [x, .ty n] H Q := ⟨x, .ty n, _, _, b, rfl, .ty n, ty, kit_ty h, q⟩
end
end U
namespace U
open PySem PySem.Spec PyProof.Rows L2
/-! ### enumerate(text) -/
def Iten (z : Str) : It :=
  ⟨fun i _ => i < z.cps.size, fun i H v H' => ∃ T c, v = .ref T ∧ H T = none ∧ H' = upd H T (.tup [.int (i : Nat), .str ⟨#[c]⟩]) ∧ z.cps[i]? = some c, fun i _ => z.cps.size ≤ i⟩
theorem turn_enumS {P : Program} {w : World} {K : PySem.W.Frag} {elts : List Expr} {kk : Nat} {tpos : Pos} (x : Str) (t : Tok) (e it : Addr) (ty : String) (hty : ty = "str_ascii_iterator" ∨ ty = "str_iterator") :
    Turn P w K (.Tuple elts kk tpos) (Iten x) [e, it] e (fun i h => (∃ old, IsEnum h e it ((i : Nat) : Int) old) ∧ h.IsStrIter it ty x t i ∧ e ≠ it ∧ i ≤ x.cps.size) where
  mem := by simp
  obj := fun i h st b hb => by
    obtain ⟨⟨old, he⟩, ⟨o, ho, hc, hd⟩, _, _⟩ := st
    have e' : b = e ∨ b = it := by simpa using hb
    rcases e' with z | z
    · rw [z]; exact ⟨_, he, fun v q => nomatch q⟩
    · rw [z]; exact ⟨o, ho, fun v q => by rw [hd] at q; cases q⟩
  keep := fun i h h' st k => let ⟨⟨old, he⟩, ⟨o, ho, r⟩, hne, hle⟩ := st; ⟨⟨old, k e (by simp) _ he⟩, ⟨o, k it (by simp) o ho, r⟩, hne, hle⟩
  item := by
    intro X hP hw hK hc i pins s σ H E I hf st hg
    subst hP hw hK
    obtain ⟨⟨old, he⟩, hit, hne, hle⟩ := st
    have hel : e < s.heap.objs.size := Heap.lt_size he
    have hil : it < s.heap.objs.size := by obtain ⟨_, q, _⟩ := hit; exact Heap.lt_size q
    have D : Draws X.prog X.w X.A.in1 it [it] x.cps.size (fun i v => ∃ c u, x.cps[i]? = some c ∧ v = .str ⟨#[c]⟩ u) (fun i h => h.IsStrIter it ty x t i) := by
      rcases hty with q | q
      · rw [q]; exact Draws.strAscii (show X.A.in1.handled = none from I.ok.hd hc) it x t
      · rw [q]; exact Draws.strWide (show X.A.in1.handled = none from I.ok.hd hc) it x t
    refine wpAny_pyNext_enum_itemD D he hit hg hne (by simp; exact hne) fun v h' tk hP ho hit' hT hsz hk => ?_
    obtain ⟨c, u0, hcx, rfl⟩ := hP
    refine ⟨_, rfl, wpAny_letOwnedTupleGo_enum (s := { s with heap := h', toks := tk + 1 }) ho fun h'' he' sb => ?_⟩
    have hT2 : h''.get? s.heap.objs.size = some { cls := .type "tuple", data := .seq #[.int i tk, .str ⟨#[c]⟩ u0] } := (sb.2 _ (Nat.ne_of_gt hel)).trans hT
    have new : ObjOk X.prog X.w (upd H s.heap.objs.size (.tup [.int (i : Nat), .str ⟨#[c]⟩])) h'' s.heap.objs.size (.tup [.int (i : Nat), .str ⟨#[c]⟩]) :=
      ⟨by show 2 ≤ sizeLine; decide, [.int i tk, .str ⟨#[c]⟩ u0], .cons ⟨_, rfl⟩ (.cons ⟨_, rfl⟩ .nil), ⟨_, hT2, rfl, _, rfl⟩⟩
    have I1 : Inv X pins σ (upd H s.heap.objs.size (.tup [.int (i : Nat), .str ⟨#[c]⟩])) { s with heap := h'', toks := tk + 1 } :=
      I.turnedNew (ch := [e, it]) (fun b ob hb q => (sb.2 b (fun z => hb (by simp [z]))).trans (hk b ob (fun z => hb (by simp [z])) (fun z => hb (by simp [z])) q)) hf (Nat.le_refl _) new
    refine ⟨.ref s.heap.objs.size, _, I1, rfl, ⟨_, c, rfl, I.hok.fresh (Nat.le_refl _), rfl, hcx⟩, ⟨⟨.str ⟨#[c]⟩ u0, ?_⟩, ?_, hne, hg⟩, fun b hb => ?_⟩
    · have e1 : ((i + 1 : Nat) : Int) = (i : Int) + 1 := by omega
      rw [e1]; exact he'
    · obtain ⟨o, q, r⟩ := hit'
      exact ⟨o, (sb.2 it (Ne.symm hne)).trans q, r⟩
    · have hb' : b < s.heap.objs.size := by
        have e' : b = e ∨ b = it := by simpa using hb
        rcases e' with z | z
        · rw [z]; exact hel
        · rw [z]; exact hil
      rw [upd_ne (Nat.ne_of_lt hb')]
      exact (hf b hb).1
  done := by
    intro X hP hw hK hc i pins s σ H E I hf st hg
    subst hP hw hK
    obtain ⟨⟨old, he⟩, hit, hne, hle⟩ := st
    obtain ⟨f0, f1, f2, f3, f4, f5⟩ := hf it (by simp)
    have hi : i = x.cps.size := Nat.le_antisymm hle hg
    rw [hi] at hit
    have D : Draws X.prog X.w X.A.in1 it [it] x.cps.size (fun i v => ∃ c u, x.cps[i]? = some c ∧ v = .str ⟨#[c]⟩ u) (fun i h => h.IsStrIter it ty x t i) := by
      rcases hty with q | q
      · rw [q]; exact Draws.strAscii (show X.A.in1.handled = none from I.ok.hd hc) it x t
      · rw [q]; exact Draws.strWide (show X.A.in1.handled = none from I.ok.hd hc) it x t
    exact wpAny_pyNext_enum_endD D he hit fun h' eb => ⟨rfl, I.turned (t' := s.toks) (fun b o hb q => eb b o hb q) f0 f1 f3 f4 f5⟩
  self := fun A i s Q E st h => let ⟨⟨_, he⟩, _⟩ := st; wpAny_pyIter_enum he h
def iEnS (ta : TA) : TI := fun σ H R => ta σ H fun vs H1 => ∃ x, vs = [.str x] ∧ R (Iten x) H1
theorem pi_enS {X : Cx} {e : Expr} {ta : TA} {p pos tpos : Pos} {elts : List Expr} {kk : Nat} (hg : Gl X "enumerate") (hm : X.mg "enumerate" = none) (ha : PA X [e] ta) (hs : starEach [e] X.env = [(false, eval e X.env)] := by rfl) :
    PI X (.Tuple elts kk tpos) (.Call (.Name "enumerate" p) [e] [] pos) (iEnS ta) := by
  refine ⟨fun pins s σ H R I h => ?_⟩
  refine Call_ (ld_blt I hg hm boot_enumerate (PyProof.Rows.callWith_type1 (thn (ha.run pos pins s σ H _ I h) fun us s1 ⟨vs, H1, I1, r1, q1⟩ => ?_) hs rfl))
  obtain ⟨x, ex, q⟩ := q1
  subst ex
  cases r1 with
  | cons r rr =>
    cases rr
    obtain ⟨t, rfl⟩ := r
    refine call_enumerate_str fun h' he hit hsz hk => wpAny_pyIter_enum he ?_
    have I2 : Inv X pins σ H1 { s1 with heap := h' } := I1.kept (t' := s1.toks) hk
    refine ⟨s1.heap.objs.size + 1, [s1.heap.objs.size + 1, s1.heap.objs.size], _, _, H1, rfl, I2, turn_enumS x t (s1.heap.objs.size + 1) s1.heap.objs.size (strIterType x) ?_, ⟨⟨.none, he⟩, hit, Nat.succ_ne_self _, Nat.zero_le _⟩, fun b hb => ?_, q⟩
    · unfold strIterType
      split
      · exact .inl rfl
      · exact .inr rfl
    · have e' : b = s1.heap.objs.size + 1 ∨ b = s1.heap.objs.size := by simpa using hb
      have hle : s1.heap.objs.size ≤ b := by
        rcases e' with z | z
        · rw [z]; exact Nat.le_add_right _ _
        · rw [z]; exact Nat.le_refl _
      exact I1.fpOk hle (I1.hok.fresh hle)
end U
namespace U
open PySem PySem.Spec PyProof.Rows L2
/-! ### constants -/
theorem pe_S {X : Cx} {x : Str} {j : Nat} {pos : Pos} (l : List Nat) (h : x = S l) : PE X (.Constant (.str x) j pos) (tC (.str (S l))) := by
  subst h
  exact pe_str
/-! ### a def, a method, a class of the program -/
def Fnn (P : Program) (w : World) (K : PySem.W.Frag) (mg : Str → Option Value) (base : Heap) (x : Str) (k : Nat) (ps : List Str) (sp : Sp) : Prop :=
  ∃ fd, FnOk P w K mg base (L2.CX P w) k (He.ga K x) fd ps sp ∧ mg x = some (.ref (He.ga K x)) ∧ PySem.W.keepIn K (.ref (He.ga K x)) = true ∧ Binds K fd ps []
def Fnm (P : Program) (w : World) (K : PySem.W.Frag) (mg : Str → Option Value) (base : Heap) (C : Addr) (m : Str) (k : Nat) (ps : List Str) (sp : Sp) : Prop :=
  ∃ fd, FnOk P w K mg base (L2.CX P w) k (He.ma K C m) fd ps sp ∧ Meth K C m (He.ma K C m) ∧ Binds K fd ps []
theorem Fnn.mono {P : Program} {w : World} {K : PySem.W.Frag} {mg : Str → Option Value} {base : Heap} {x : Str} {j k : Nat} {ps : List Str} {sp : Sp} (F : Fnn P w K mg base x j ps sp) (h : j ≤ k) : Fnn P w K mg base x k ps sp := by
  obtain ⟨fd, F, r⟩ := F
  exact ⟨fd, F.mono h, r⟩
theorem Fnm.mono {P : Program} {w : World} {K : PySem.W.Frag} {mg : Str → Option Value} {base : Heap} {C : Addr} {x : Str} {j k : Nat} {ps : List Str} {sp : Sp} (F : Fnm P w K mg base C x j ps sp) (h : j ≤ k) : Fnm P w K mg base C x k ps sp := by
  obtain ⟨fd, F, r⟩ := F
  exact ⟨fd, F.mono h, r⟩
/-- what may leave a call -/
def PassA (X : Cx) (E : L2.St → XK) : Prop := ∀ σ, PassesAt (L2.CX X.prog X.w) X σ (E σ)
theorem pa_tk {X : Cx} {W : WX} (tk : Takes X W) : PassA X (WE W) := fun σ => passAt tk σ
theorem pa_0 {X : Cx} : PassA X (fun _ => E0) := fun σ pins H s e s' I c => passL pins σ H s e s' I c
section
variable {X : Cx} {k : Nat} {C : Addr} {ps : List Str} {sp : Sp} {E : L2.St → XK} {x m : Str} {p pos apos : Pos} {e o : Expr} {es : List Expr} {ta : TE} {t : TA}
theorem pe_fn (F : Fnn X.prog X.w X.K X.mg X.base x k ps sp) (hr : Room k X.A) (hg : Gl X x) (hx : PassA X E) (ha : PA X (e :: es) t) (hdb : (x == ("__debug__" : Str)) = false := by decide)
    (he : starEach (e :: es) X.env = (false, eval e X.env) :: starEach es X.env := by rfl) (hpl : (backTo pos (starEach es X.env)).any (·.1) = false := by rfl) :
    PE X (.Call (.Name x p) (e :: es) [] pos) (tCallS sp E t) := by
  obtain ⟨fd, F, hm, hk, hb⟩ := F
  exact pe_callS F hr hg hm hk hb hx ha hdb he hpl
def tMt (C : Addr) (m : Str) (sp : Sp) (E : L2.St → XK) (ta : TE) (t : TA) : TE := fun σ H Q => ta σ H fun x H1 => ∃ a dx fs, x = .ref a ∧ H1 a = some (.ins C dx fs) ∧ fs.lookup m = none ∧
  t σ H1 fun vs H2 => sp (.ref a :: vs) H2 Q (E σ)
theorem pe_mt {pl : Sem Bool} (he : PE X o ta) (cl : Cls X.K C) (F : Fnm X.prog X.w X.K X.mg X.base C m k ps sp) (hr : Room k X.A) (hx : PassA X E) (ha : PA X (e :: es) t)
    (hst : starEach (e :: es) X.env = (false, eval e X.env) :: starEach es X.env := by rfl) (hpl : (backTo pos (starEach es X.env)).any (·.1) = false := by rfl)
    (ht : eval (.Call (.Attribute o m apos) (e :: es) [] pos) X.env = (do
      let ov ← eval o X.env
      standAt apos.atName
      let (f, first) ← holding [ov] (getMethod ov m pl)
      callWith pos f first (backTo pos (starEach (e :: es) X.env)) (backToKw pos (keywordEach [] X.env))) := by rfl) :
    PE X (.Call (.Attribute o m apos) (e :: es) [] pos) (tMt C m sp E ta t) := by
  obtain ⟨fd, F, hm, hb⟩ := F
  refine ⟨fun pins s σ H Q I h => ?_⟩
  refine PySem.W.methodCall_KW (pl := pl) (thn (he.run pins s σ H _ I h) fun u s1 ⟨y, H1, I1, rx, a, dx, fs, ex, ea, l, q⟩ => ?_) ht
  subst ex
  obtain rfl : u = Value.ref a := rx
  refine getmeth_ok I1 ea cl hm l ?_
  refine PySem.W.callWith_K (first := [.ref a]) (h₀ := X.base) I.ok.mod.kin hm.kp (thn (ha.run pos pins s1 σ H1 _ I1 q) fun us s2 ⟨vs, H2, I2, r, q2⟩ => ⟨I2.kIn, ?_⟩) hst hpl
  exact run_fnS (us := .ref a :: us) (vs := .ref a :: vs) F hr hb (hx σ) I2 (.cons rfl r) q2
theorem pe_mt0 {pl : Sem Bool} (he : PE X o ta) (cl : Cls X.K C) (F : Fnm X.prog X.w X.K X.mg X.base C m k ps sp) (hr : Room k X.A) (hx : PassA X E)
    (ht : eval (.Call (.Attribute o m apos) [] [] pos) X.env = (do
      let ov ← eval o X.env
      standAt apos.atName
      let (f, first) ← holding [ov] (getMethod ov m pl)
      callWith pos f first (backTo pos (starEach [] X.env)) (backToKw pos (keywordEach [] X.env))) := by rfl) :
    PE X (.Call (.Attribute o m apos) [] [] pos) (tMt C m sp E ta tNil) := by
  obtain ⟨fd, F, hm, hb⟩ := F
  refine ⟨fun pins s σ H Q I h => ?_⟩
  refine PySem.W.methodCall_KW (pl := pl) (thn (he.run pins s σ H _ I h) fun u s1 ⟨y, H1, I1, rx, a, dx, fs, ex, ea, l, q⟩ => ?_) ht
  subst ex
  obtain rfl : u = Value.ref a := rx
  refine getmeth_ok I1 ea cl hm l ?_
  exact PySem.W.callWith_K0 (first := [.ref a]) I1.kIn hm.kp (run_fnS (us := [.ref a]) (vs := [.ref a]) F hr hb (hx σ) I1 (.cons rfl .nil) q)
theorem pe_mk0 (M : Mk X.K C (He.ma X.K C "__init__")) (F : Fnm X.prog X.w X.K X.mg X.base C "__init__" k ps sp) (hr : Room (k + 1) X.A) (hg : Gl X x) (hm : X.mg x = some (.ref C)) (hdb : (x == ("__debug__" : Str)) = false := by decide) :
    PE X (.Call (.Name x p) [] [] pos) (tMake C sp [] E0 tNil) := by
  obtain ⟨fd, F, _, hb⟩ := F
  exact pe_make0 M F hr hg hm hb .nil passL hdb
theorem pe_mk (M : Mk X.K C (He.ma X.K C "__init__")) (F : Fnm X.prog X.w X.K X.mg X.base C "__init__" k ps sp) (hr : Room (k + 1) X.A) (hg : Gl X x) (hm : X.mg x = some (.ref C)) (ha : PA X (e :: es) t) (hdb : (x == ("__debug__" : Str)) = false := by decide)
    (he : starEach (e :: es) X.env = (false, eval e X.env) :: starEach es X.env := by rfl) (hpl : (backTo pos (starEach es X.env)).any (·.1) = false := by rfl) :
    PE X (.Call (.Name x p) (e :: es) [] pos) (tMake C sp [] E0 t) := by
  obtain ⟨fd, F, _, hb⟩ := F
  exact pe_make M F hr hg hm hb .nil passL ha hdb he hpl
end
/-! ### readings, one step each -/
section
variable {K : PySem.W.Frag} {σ : L2.St} {H : Hp} {Q : VK} {QB : Bool → Hp → Prop} {QL : List V → Hp → Prop} {n b c : L2.St → Hp → Prop} {r : VK} {ta tb tc te : TE} {tt tu : TT} {t u : TS} {tl th : TO} {al : TA}
theorem rd_v0 {v : V} {σ : L2.St} (q : Q v H) : tVar 0 (some v :: σ) H Q := ⟨v, rfl, q⟩
theorem rd_g0 {x : Option V} {v : V} {σ : L2.St} {R : L2.St → Hp → Prop} (q : R (some v :: σ) H) : gName 0 v (x :: σ) H R := q
theorem rd_a0 {x : V} {σ : L2.St} {te : TE} {ti : TIp} (q : te (some x :: σ) H fun y H1 => ti x y H1 fun z H2 => n (some z :: σ) H2) : tAug 0 te ti ⟨n, r, b, c⟩ (some x :: σ) H := ⟨x, rfl, q⟩
theorem rd_v1 {a0 : Option V} {v : V} {σ : L2.St} (q : Q v H) : tVar 1 (a0 :: some v :: σ) H Q := ⟨v, rfl, q⟩
theorem rd_g1 {a0 : Option V} {x : Option V} {v : V} {σ : L2.St} {R : L2.St → Hp → Prop} (q : R (a0 :: some v :: σ) H) : gName 1 v (a0 :: x :: σ) H R := q
theorem rd_a1 {a0 : Option V} {x : V} {σ : L2.St} {te : TE} {ti : TIp} (q : te (a0 :: some x :: σ) H fun y H1 => ti x y H1 fun z H2 => n (a0 :: some z :: σ) H2) : tAug 1 te ti ⟨n, r, b, c⟩ (a0 :: some x :: σ) H := ⟨x, rfl, q⟩
theorem rd_v2 {a0 a1 : Option V} {v : V} {σ : L2.St} (q : Q v H) : tVar 2 (a0 :: a1 :: some v :: σ) H Q := ⟨v, rfl, q⟩
theorem rd_g2 {a0 a1 : Option V} {x : Option V} {v : V} {σ : L2.St} {R : L2.St → Hp → Prop} (q : R (a0 :: a1 :: some v :: σ) H) : gName 2 v (a0 :: a1 :: x :: σ) H R := q
theorem rd_a2 {a0 a1 : Option V} {x : V} {σ : L2.St} {te : TE} {ti : TIp} (q : te (a0 :: a1 :: some x :: σ) H fun y H1 => ti x y H1 fun z H2 => n (a0 :: a1 :: some z :: σ) H2) : tAug 2 te ti ⟨n, r, b, c⟩ (a0 :: a1 :: some x :: σ) H := ⟨x, rfl, q⟩
theorem rd_v3 {a0 a1 a2 : Option V} {v : V} {σ : L2.St} (q : Q v H) : tVar 3 (a0 :: a1 :: a2 :: some v :: σ) H Q := ⟨v, rfl, q⟩
theorem rd_g3 {a0 a1 a2 : Option V} {x : Option V} {v : V} {σ : L2.St} {R : L2.St → Hp → Prop} (q : R (a0 :: a1 :: a2 :: some v :: σ) H) : gName 3 v (a0 :: a1 :: a2 :: x :: σ) H R := q
theorem rd_a3 {a0 a1 a2 : Option V} {x : V} {σ : L2.St} {te : TE} {ti : TIp} (q : te (a0 :: a1 :: a2 :: some x :: σ) H fun y H1 => ti x y H1 fun z H2 => n (a0 :: a1 :: a2 :: some z :: σ) H2) : tAug 3 te ti ⟨n, r, b, c⟩ (a0 :: a1 :: a2 :: some x :: σ) H := ⟨x, rfl, q⟩
theorem rd_v4 {a0 a1 a2 a3 : Option V} {v : V} {σ : L2.St} (q : Q v H) : tVar 4 (a0 :: a1 :: a2 :: a3 :: some v :: σ) H Q := ⟨v, rfl, q⟩
theorem rd_g4 {a0 a1 a2 a3 : Option V} {x : Option V} {v : V} {σ : L2.St} {R : L2.St → Hp → Prop} (q : R (a0 :: a1 :: a2 :: a3 :: some v :: σ) H) : gName 4 v (a0 :: a1 :: a2 :: a3 :: x :: σ) H R := q
theorem rd_a4 {a0 a1 a2 a3 : Option V} {x : V} {σ : L2.St} {te : TE} {ti : TIp} (q : te (a0 :: a1 :: a2 :: a3 :: some x :: σ) H fun y H1 => ti x y H1 fun z H2 => n (a0 :: a1 :: a2 :: a3 :: some z :: σ) H2) : tAug 4 te ti ⟨n, r, b, c⟩ (a0 :: a1 :: a2 :: a3 :: some x :: σ) H := ⟨x, rfl, q⟩
theorem rd_v5 {a0 a1 a2 a3 a4 : Option V} {v : V} {σ : L2.St} (q : Q v H) : tVar 5 (a0 :: a1 :: a2 :: a3 :: a4 :: some v :: σ) H Q := ⟨v, rfl, q⟩
theorem rd_g5 {a0 a1 a2 a3 a4 : Option V} {x : Option V} {v : V} {σ : L2.St} {R : L2.St → Hp → Prop} (q : R (a0 :: a1 :: a2 :: a3 :: a4 :: some v :: σ) H) : gName 5 v (a0 :: a1 :: a2 :: a3 :: a4 :: x :: σ) H R := q
theorem rd_a5 {a0 a1 a2 a3 a4 : Option V} {x : V} {σ : L2.St} {te : TE} {ti : TIp} (q : te (a0 :: a1 :: a2 :: a3 :: a4 :: some x :: σ) H fun y H1 => ti x y H1 fun z H2 => n (a0 :: a1 :: a2 :: a3 :: a4 :: some z :: σ) H2) : tAug 5 te ti ⟨n, r, b, c⟩ (a0 :: a1 :: a2 :: a3 :: a4 :: some x :: σ) H := ⟨x, rfl, q⟩
theorem rd_v6 {a0 a1 a2 a3 a4 a5 : Option V} {v : V} {σ : L2.St} (q : Q v H) : tVar 6 (a0 :: a1 :: a2 :: a3 :: a4 :: a5 :: some v :: σ) H Q := ⟨v, rfl, q⟩
theorem rd_g6 {a0 a1 a2 a3 a4 a5 : Option V} {x : Option V} {v : V} {σ : L2.St} {R : L2.St → Hp → Prop} (q : R (a0 :: a1 :: a2 :: a3 :: a4 :: a5 :: some v :: σ) H) : gName 6 v (a0 :: a1 :: a2 :: a3 :: a4 :: a5 :: x :: σ) H R := q
theorem rd_a6 {a0 a1 a2 a3 a4 a5 : Option V} {x : V} {σ : L2.St} {te : TE} {ti : TIp} (q : te (a0 :: a1 :: a2 :: a3 :: a4 :: a5 :: some x :: σ) H fun y H1 => ti x y H1 fun z H2 => n (a0 :: a1 :: a2 :: a3 :: a4 :: a5 :: some z :: σ) H2) : tAug 6 te ti ⟨n, r, b, c⟩ (a0 :: a1 :: a2 :: a3 :: a4 :: a5 :: some x :: σ) H := ⟨x, rfl, q⟩
theorem rd_v7 {a0 a1 a2 a3 a4 a5 a6 : Option V} {v : V} {σ : L2.St} (q : Q v H) : tVar 7 (a0 :: a1 :: a2 :: a3 :: a4 :: a5 :: a6 :: some v :: σ) H Q := ⟨v, rfl, q⟩
theorem rd_g7 {a0 a1 a2 a3 a4 a5 a6 : Option V} {x : Option V} {v : V} {σ : L2.St} {R : L2.St → Hp → Prop} (q : R (a0 :: a1 :: a2 :: a3 :: a4 :: a5 :: a6 :: some v :: σ) H) : gName 7 v (a0 :: a1 :: a2 :: a3 :: a4 :: a5 :: a6 :: x :: σ) H R := q
theorem rd_a7 {a0 a1 a2 a3 a4 a5 a6 : Option V} {x : V} {σ : L2.St} {te : TE} {ti : TIp} (q : te (a0 :: a1 :: a2 :: a3 :: a4 :: a5 :: a6 :: some x :: σ) H fun y H1 => ti x y H1 fun z H2 => n (a0 :: a1 :: a2 :: a3 :: a4 :: a5 :: a6 :: some z :: σ) H2) : tAug 7 te ti ⟨n, r, b, c⟩ (a0 :: a1 :: a2 :: a3 :: a4 :: a5 :: a6 :: some x :: σ) H := ⟨x, rfl, q⟩
theorem rd_v8 {a0 a1 a2 a3 a4 a5 a6 a7 : Option V} {v : V} {σ : L2.St} (q : Q v H) : tVar 8 (a0 :: a1 :: a2 :: a3 :: a4 :: a5 :: a6 :: a7 :: some v :: σ) H Q := ⟨v, rfl, q⟩
theorem rd_g8 {a0 a1 a2 a3 a4 a5 a6 a7 : Option V} {x : Option V} {v : V} {σ : L2.St} {R : L2.St → Hp → Prop} (q : R (a0 :: a1 :: a2 :: a3 :: a4 :: a5 :: a6 :: a7 :: some v :: σ) H) : gName 8 v (a0 :: a1 :: a2 :: a3 :: a4 :: a5 :: a6 :: a7 :: x :: σ) H R := q
theorem rd_a8 {a0 a1 a2 a3 a4 a5 a6 a7 : Option V} {x : V} {σ : L2.St} {te : TE} {ti : TIp} (q : te (a0 :: a1 :: a2 :: a3 :: a4 :: a5 :: a6 :: a7 :: some x :: σ) H fun y H1 => ti x y H1 fun z H2 => n (a0 :: a1 :: a2 :: a3 :: a4 :: a5 :: a6 :: a7 :: some z :: σ) H2) : tAug 8 te ti ⟨n, r, b, c⟩ (a0 :: a1 :: a2 :: a3 :: a4 :: a5 :: a6 :: a7 :: some x :: σ) H := ⟨x, rfl, q⟩
theorem rd_v9 {a0 a1 a2 a3 a4 a5 a6 a7 a8 : Option V} {v : V} {σ : L2.St} (q : Q v H) : tVar 9 (a0 :: a1 :: a2 :: a3 :: a4 :: a5 :: a6 :: a7 :: a8 :: some v :: σ) H Q := ⟨v, rfl, q⟩
theorem rd_g9 {a0 a1 a2 a3 a4 a5 a6 a7 a8 : Option V} {x : Option V} {v : V} {σ : L2.St} {R : L2.St → Hp → Prop} (q : R (a0 :: a1 :: a2 :: a3 :: a4 :: a5 :: a6 :: a7 :: a8 :: some v :: σ) H) : gName 9 v (a0 :: a1 :: a2 :: a3 :: a4 :: a5 :: a6 :: a7 :: a8 :: x :: σ) H R := q
theorem rd_a9 {a0 a1 a2 a3 a4 a5 a6 a7 a8 : Option V} {x : V} {σ : L2.St} {te : TE} {ti : TIp} (q : te (a0 :: a1 :: a2 :: a3 :: a4 :: a5 :: a6 :: a7 :: a8 :: some x :: σ) H fun y H1 => ti x y H1 fun z H2 => n (a0 :: a1 :: a2 :: a3 :: a4 :: a5 :: a6 :: a7 :: a8 :: some z :: σ) H2) : tAug 9 te ti ⟨n, r, b, c⟩ (a0 :: a1 :: a2 :: a3 :: a4 :: a5 :: a6 :: a7 :: a8 :: some x :: σ) H := ⟨x, rfl, q⟩
theorem rd_v10 {a0 a1 a2 a3 a4 a5 a6 a7 a8 a9 : Option V} {v : V} {σ : L2.St} (q : Q v H) : tVar 10 (a0 :: a1 :: a2 :: a3 :: a4 :: a5 :: a6 :: a7 :: a8 :: a9 :: some v :: σ) H Q := ⟨v, rfl, q⟩
theorem rd_g10 {a0 a1 a2 a3 a4 a5 a6 a7 a8 a9 : Option V} {x : Option V} {v : V} {σ : L2.St} {R : L2.St → Hp → Prop} (q : R (a0 :: a1 :: a2 :: a3 :: a4 :: a5 :: a6 :: a7 :: a8 :: a9 :: some v :: σ) H) : gName 10 v (a0 :: a1 :: a2 :: a3 :: a4 :: a5 :: a6 :: a7 :: a8 :: a9 :: x :: σ) H R := q
theorem rd_a10 {a0 a1 a2 a3 a4 a5 a6 a7 a8 a9 : Option V} {x : V} {σ : L2.St} {te : TE} {ti : TIp} (q : te (a0 :: a1 :: a2 :: a3 :: a4 :: a5 :: a6 :: a7 :: a8 :: a9 :: some x :: σ) H fun y H1 => ti x y H1 fun z H2 => n (a0 :: a1 :: a2 :: a3 :: a4 :: a5 :: a6 :: a7 :: a8 :: a9 :: some z :: σ) H2) : tAug 10 te ti ⟨n, r, b, c⟩ (a0 :: a1 :: a2 :: a3 :: a4 :: a5 :: a6 :: a7 :: a8 :: a9 :: some x :: σ) H := ⟨x, rfl, q⟩
theorem rd_v11 {a0 a1 a2 a3 a4 a5 a6 a7 a8 a9 a10 : Option V} {v : V} {σ : L2.St} (q : Q v H) : tVar 11 (a0 :: a1 :: a2 :: a3 :: a4 :: a5 :: a6 :: a7 :: a8 :: a9 :: a10 :: some v :: σ) H Q := ⟨v, rfl, q⟩
theorem rd_g11 {a0 a1 a2 a3 a4 a5 a6 a7 a8 a9 a10 : Option V} {x : Option V} {v : V} {σ : L2.St} {R : L2.St → Hp → Prop} (q : R (a0 :: a1 :: a2 :: a3 :: a4 :: a5 :: a6 :: a7 :: a8 :: a9 :: a10 :: some v :: σ) H) : gName 11 v (a0 :: a1 :: a2 :: a3 :: a4 :: a5 :: a6 :: a7 :: a8 :: a9 :: a10 :: x :: σ) H R := q
theorem rd_a11 {a0 a1 a2 a3 a4 a5 a6 a7 a8 a9 a10 : Option V} {x : V} {σ : L2.St} {te : TE} {ti : TIp} (q : te (a0 :: a1 :: a2 :: a3 :: a4 :: a5 :: a6 :: a7 :: a8 :: a9 :: a10 :: some x :: σ) H fun y H1 => ti x y H1 fun z H2 => n (a0 :: a1 :: a2 :: a3 :: a4 :: a5 :: a6 :: a7 :: a8 :: a9 :: a10 :: some z :: σ) H2) : tAug 11 te ti ⟨n, r, b, c⟩ (a0 :: a1 :: a2 :: a3 :: a4 :: a5 :: a6 :: a7 :: a8 :: a9 :: a10 :: some x :: σ) H := ⟨x, rfl, q⟩
theorem rd_v12 {a0 a1 a2 a3 a4 a5 a6 a7 a8 a9 a10 a11 : Option V} {v : V} {σ : L2.St} (q : Q v H) : tVar 12 (a0 :: a1 :: a2 :: a3 :: a4 :: a5 :: a6 :: a7 :: a8 :: a9 :: a10 :: a11 :: some v :: σ) H Q := ⟨v, rfl, q⟩
theorem rd_g12 {a0 a1 a2 a3 a4 a5 a6 a7 a8 a9 a10 a11 : Option V} {x : Option V} {v : V} {σ : L2.St} {R : L2.St → Hp → Prop} (q : R (a0 :: a1 :: a2 :: a3 :: a4 :: a5 :: a6 :: a7 :: a8 :: a9 :: a10 :: a11 :: some v :: σ) H) : gName 12 v (a0 :: a1 :: a2 :: a3 :: a4 :: a5 :: a6 :: a7 :: a8 :: a9 :: a10 :: a11 :: x :: σ) H R := q
theorem rd_a12 {a0 a1 a2 a3 a4 a5 a6 a7 a8 a9 a10 a11 : Option V} {x : V} {σ : L2.St} {te : TE} {ti : TIp} (q : te (a0 :: a1 :: a2 :: a3 :: a4 :: a5 :: a6 :: a7 :: a8 :: a9 :: a10 :: a11 :: some x :: σ) H fun y H1 => ti x y H1 fun z H2 => n (a0 :: a1 :: a2 :: a3 :: a4 :: a5 :: a6 :: a7 :: a8 :: a9 :: a10 :: a11 :: some z :: σ) H2) : tAug 12 te ti ⟨n, r, b, c⟩ (a0 :: a1 :: a2 :: a3 :: a4 :: a5 :: a6 :: a7 :: a8 :: a9 :: a10 :: a11 :: some x :: σ) H := ⟨x, rfl, q⟩
theorem rd_v13 {a0 a1 a2 a3 a4 a5 a6 a7 a8 a9 a10 a11 a12 : Option V} {v : V} {σ : L2.St} (q : Q v H) : tVar 13 (a0 :: a1 :: a2 :: a3 :: a4 :: a5 :: a6 :: a7 :: a8 :: a9 :: a10 :: a11 :: a12 :: some v :: σ) H Q := ⟨v, rfl, q⟩
theorem rd_g13 {a0 a1 a2 a3 a4 a5 a6 a7 a8 a9 a10 a11 a12 : Option V} {x : Option V} {v : V} {σ : L2.St} {R : L2.St → Hp → Prop} (q : R (a0 :: a1 :: a2 :: a3 :: a4 :: a5 :: a6 :: a7 :: a8 :: a9 :: a10 :: a11 :: a12 :: some v :: σ) H) : gName 13 v (a0 :: a1 :: a2 :: a3 :: a4 :: a5 :: a6 :: a7 :: a8 :: a9 :: a10 :: a11 :: a12 :: x :: σ) H R := q
theorem rd_a13 {a0 a1 a2 a3 a4 a5 a6 a7 a8 a9 a10 a11 a12 : Option V} {x : V} {σ : L2.St} {te : TE} {ti : TIp} (q : te (a0 :: a1 :: a2 :: a3 :: a4 :: a5 :: a6 :: a7 :: a8 :: a9 :: a10 :: a11 :: a12 :: some x :: σ) H fun y H1 => ti x y H1 fun z H2 => n (a0 :: a1 :: a2 :: a3 :: a4 :: a5 :: a6 :: a7 :: a8 :: a9 :: a10 :: a11 :: a12 :: some z :: σ) H2) : tAug 13 te ti ⟨n, r, b, c⟩ (a0 :: a1 :: a2 :: a3 :: a4 :: a5 :: a6 :: a7 :: a8 :: a9 :: a10 :: a11 :: a12 :: some x :: σ) H := ⟨x, rfl, q⟩
theorem rd_v14 {a0 a1 a2 a3 a4 a5 a6 a7 a8 a9 a10 a11 a12 a13 : Option V} {v : V} {σ : L2.St} (q : Q v H) : tVar 14 (a0 :: a1 :: a2 :: a3 :: a4 :: a5 :: a6 :: a7 :: a8 :: a9 :: a10 :: a11 :: a12 :: a13 :: some v :: σ) H Q := ⟨v, rfl, q⟩
theorem rd_g14 {a0 a1 a2 a3 a4 a5 a6 a7 a8 a9 a10 a11 a12 a13 : Option V} {x : Option V} {v : V} {σ : L2.St} {R : L2.St → Hp → Prop} (q : R (a0 :: a1 :: a2 :: a3 :: a4 :: a5 :: a6 :: a7 :: a8 :: a9 :: a10 :: a11 :: a12 :: a13 :: some v :: σ) H) : gName 14 v (a0 :: a1 :: a2 :: a3 :: a4 :: a5 :: a6 :: a7 :: a8 :: a9 :: a10 :: a11 :: a12 :: a13 :: x :: σ) H R := q
theorem rd_a14 {a0 a1 a2 a3 a4 a5 a6 a7 a8 a9 a10 a11 a12 a13 : Option V} {x : V} {σ : L2.St} {te : TE} {ti : TIp} (q : te (a0 :: a1 :: a2 :: a3 :: a4 :: a5 :: a6 :: a7 :: a8 :: a9 :: a10 :: a11 :: a12 :: a13 :: some x :: σ) H fun y H1 => ti x y H1 fun z H2 => n (a0 :: a1 :: a2 :: a3 :: a4 :: a5 :: a6 :: a7 :: a8 :: a9 :: a10 :: a11 :: a12 :: a13 :: some z :: σ) H2) : tAug 14 te ti ⟨n, r, b, c⟩ (a0 :: a1 :: a2 :: a3 :: a4 :: a5 :: a6 :: a7 :: a8 :: a9 :: a10 :: a11 :: a12 :: a13 :: some x :: σ) H := ⟨x, rfl, q⟩
theorem rd_v15 {a0 a1 a2 a3 a4 a5 a6 a7 a8 a9 a10 a11 a12 a13 a14 : Option V} {v : V} {σ : L2.St} (q : Q v H) : tVar 15 (a0 :: a1 :: a2 :: a3 :: a4 :: a5 :: a6 :: a7 :: a8 :: a9 :: a10 :: a11 :: a12 :: a13 :: a14 :: some v :: σ) H Q := ⟨v, rfl, q⟩
theorem rd_g15 {a0 a1 a2 a3 a4 a5 a6 a7 a8 a9 a10 a11 a12 a13 a14 : Option V} {x : Option V} {v : V} {σ : L2.St} {R : L2.St → Hp → Prop} (q : R (a0 :: a1 :: a2 :: a3 :: a4 :: a5 :: a6 :: a7 :: a8 :: a9 :: a10 :: a11 :: a12 :: a13 :: a14 :: some v :: σ) H) : gName 15 v (a0 :: a1 :: a2 :: a3 :: a4 :: a5 :: a6 :: a7 :: a8 :: a9 :: a10 :: a11 :: a12 :: a13 :: a14 :: x :: σ) H R := q
theorem rd_a15 {a0 a1 a2 a3 a4 a5 a6 a7 a8 a9 a10 a11 a12 a13 a14 : Option V} {x : V} {σ : L2.St} {te : TE} {ti : TIp} (q : te (a0 :: a1 :: a2 :: a3 :: a4 :: a5 :: a6 :: a7 :: a8 :: a9 :: a10 :: a11 :: a12 :: a13 :: a14 :: some x :: σ) H fun y H1 => ti x y H1 fun z H2 => n (a0 :: a1 :: a2 :: a3 :: a4 :: a5 :: a6 :: a7 :: a8 :: a9 :: a10 :: a11 :: a12 :: a13 :: a14 :: some z :: σ) H2) : tAug 15 te ti ⟨n, r, b, c⟩ (a0 :: a1 :: a2 :: a3 :: a4 :: a5 :: a6 :: a7 :: a8 :: a9 :: a10 :: a11 :: a12 :: a13 :: a14 :: some x :: σ) H := ⟨x, rfl, q⟩
theorem rd_c {v : V} (q : Q v H) : tC v σ H Q := q
theorem rd_op {o : R2} (q : ta σ H fun x H1 => tb σ H1 fun y H2 => o x y H2 Q) : tOp o ta tb σ H Q := q
theorem rd_un {o : V → Hp → VK → Prop} (q : ta σ H fun x H1 => o x H1 Q) : tUn o ta σ H Q := q
theorem rd_nil (q : QL [] H) : tNil σ H QL := q
theorem rd_cons (q : ta σ H fun x H1 => al σ H1 fun xs H2 => QL (x :: xs) H2) : tCons ta al σ H QL := q
theorem rd_cb {o : List V → Hp → VK → Prop} (q : al σ H fun vs H1 => o vs H1 Q) : tCB o al σ H Q := q
theorem rd_tup (q : al σ H fun xs H1 => xs.length ≤ sizeLine ∧ ∀ p, H1 p = none → Q (.ref p) (upd H1 p (.tup xs))) : tTup al σ H Q := q
theorem rd_lst (q : al σ H fun xs H1 => xs.length ≤ sizeLine ∧ ∀ p, H1 p = none → Q (.ref p) (upd H1 p (.lst xs))) : tLst al σ H Q := q
theorem rd_fn {sp : Sp} {E : L2.St → XK} (q : al σ H fun vs H1 => sp vs H1 Q (E σ)) : tCallS sp E al σ H Q := q
theorem rd_mt {C : Addr} {m : Str} {sp : Sp} {E : L2.St → XK} (q : ta σ H fun x H1 => ∃ a dx fs, x = .ref a ∧ H1 a = some (.ins C dx fs) ∧ fs.lookup m = none ∧ al σ H1 fun vs H2 => sp (.ref a :: vs) H2 Q (E σ)) : tMt C m sp E ta al σ H Q := q
theorem rd_mk {C : Addr} {sp : Sp} {E : XK} (q : al σ H fun vs H1 => ∀ x dx, H1 x = none → H1 dx = none → dx ≠ x → sp (.ref x :: (vs ++ [])) (upd (upd H1 dx (.own x)) x (.ins C dx [])) (fun v H2 => v = .non ∧ Q (.ref x) H2) E) : tMake C sp [] E al σ H Q := q
theorem rd_test (q : te σ H fun x H' => ∃ k, x = .bl k ∧ QB k H') : tTest te σ H QB := q
theorem rd_tB (q : te σ H fun x H' => ∃ k, x = .bl k ∧ QB k H') : tB te σ H QB := q
theorem rd_bl {x : Bool} {R : Bool → Prop} (q : R x) : ∃ k, V.bl x = .bl k ∧ R k := ⟨x, rfl, q⟩
theorem rd_int {x : Int} {R : Int → Prop} (q : R x) : ∃ k, V.int x = .int k ∧ R k := ⟨x, rfl, q⟩
theorem rd_and (q : tt σ H fun c H1 => if c = true then tu σ H1 QB else QB false H1) : tAnd tt tu σ H QB := q
theorem rd_or (q : tt σ H fun c H1 => if c = true then QB true H1 else tu σ H1 QB) : tOr tt tu σ H QB := q
theorem rd_not (q : tt σ H fun c H1 => QB (!c) H1) : tNot tt σ H QB := q
theorem rd_andV (q : ta σ H fun x H1 => ∃ c, x = .bl c ∧ if c = true then tb σ H1 Q else Q (.bl false) H1) : tAndV ta tb σ H Q := q
theorem rd_orV (q : ta σ H fun x H1 => ∃ c, x = .bl c ∧ if c = true then Q (.bl true) H1 else tb σ H1 Q) : tOrV ta tb σ H Q := q
theorem rd_notV (q : ta σ H fun x H1 => ∃ c, x = .bl c ∧ Q (.bl (!c)) H1) : tNotV ta σ H Q := q
theorem rd_chain {o o' : R2} (q : ta σ H fun x H1 => tb σ H1 fun y H2 => o x y H2 fun z H3 => ∃ k, z = .bl k ∧ (if k = true then tc σ H3 fun w' H4 => o' y w' H4 Q else Q (.bl false) H3)) : tChain o o' ta tb tc σ H Q := q
theorem rd_ifE (q : tt σ H fun c H1 => if c = true then ta σ H1 Q else tb σ H1 Q) : tIf tt ta tb σ H Q := q
theorem rd_slice {o : V → Option Int → Option Int → Hp → VK → Prop} (q : te σ H fun x H1 => tl σ H1 fun l H2 => th σ H2 fun u H3 => o x l u H3 Q) : tSl o te tl th σ H Q := q
theorem rd_nopart {R : Option Int → Hp → Prop} (q : R none H) : tNoPart σ H R := q
theorem rd_part {R : Option Int → Hp → Prop} (q : te σ H fun x H1 => ∃ i, x = .int i ∧ R (some i) H1) : tPart te σ H R := q
theorem rd_bm {T : String} {o : V → List V → Hp → VK → Prop} (q : ta σ H fun x H1 => tyV K T x H1 ∧ al σ H1 fun xs H2 => o x xs H2 Q) : tBM K T o ta al σ H Q := q
theorem rd_bm0 {T : String} {o : V → List V → Hp → VK → Prop} (q : ta σ H fun x H1 => tyV K T x H1 ∧ o x [] H1 Q) : tBM0 K T o ta σ H Q := q
theorem rd_m1 {o : V → List V → Hp → VK → Prop} (q : ta σ H fun x H1 => (∃ a, x = .str a) ∧ te σ H1 fun y H2 => o x [y] H2 Q) : tM1 o ta te σ H Q := q
theorem rd_istr {z : Str} {R : Prop} (q : R) : (∃ a, V.str z = .str a) ∧ R := ⟨⟨z, rfl⟩, q⟩
theorem rd_fld {f : Str} (q : ta σ H fun x H1 => ∃ a C dx fs v, x = .ref a ∧ H1 a = some (.ins C dx fs) ∧ Cls K C ∧ NoAttr K C f ∧ fs.lookup f = some v ∧ Q v H1) : tFld K ta f σ H Q := q
theorem rd_sfld {f : Str} (q : tb σ H fun y H1 => ta σ H1 fun x H2 => ∃ a C dx fs, x = .ref a ∧ H2 a = some (.ins C dx fs) ∧ Cls K C ∧ NoAttr K C f ∧ fs.length < 1000 ∧ n σ (upd H2 a (.ins C dx (putF f y fs)))) : sFld K ta tb f ⟨n, r, b, c⟩ σ H := q
theorem rd_seq (q : t ⟨fun σ' H' => u ⟨n, r, b, c⟩ σ' H', r, b, c⟩ σ H) : tSeq t u ⟨n, r, b, c⟩ σ H := q
theorem rd_next (q : n σ H) : tNext ⟨n, r, b, c⟩ σ H := q
theorem rd_brk (q : b σ H) : tBreak ⟨n, r, b, c⟩ σ H := q
theorem rd_cont (q : c σ H) : tCont ⟨n, r, b, c⟩ σ H := q
theorem rd_asg {g : TG} (q : te σ H fun x H1 => g x σ H1 n) : tAsg te g ⟨n, r, b, c⟩ σ H := q
theorem rd_drop (q : te σ H fun _ H1 => n σ H1) : tDrop te ⟨n, r, b, c⟩ σ H := q
theorem rd_ret (q : te σ H r) : tRet te ⟨n, r, b, c⟩ σ H := q
theorem rd_retN (q : r .non H) : tRetN ⟨n, r, b, c⟩ σ H := q
theorem rd_ifS (q : tt σ H fun k H1 => if k = true then t ⟨n, r, b, c⟩ σ H1 else u ⟨n, r, b, c⟩ σ H1) : tIfS tt t u ⟨n, r, b, c⟩ σ H := q
theorem rd_for {wi : TI} {g : TG} (q : wi σ H fun J H1 => ∃ W : Nat → Nat → L2.St → Hp → Prop, (∃ m, W 0 m σ H1) ∧ ∀ i m σ H, W i m σ H →
  (J.stop i H ∧ n σ H) ∨ (J.go i H ∧ ∃ N : L2.St → Hp → Prop, (∀ σ' H', N σ' H' → ∃ m', m' < m ∧ W (i + 1) m' σ' H') ∧ ∀ x H', J.yld i H x H' → g x σ H' fun σ2 H2 => t ⟨N, r, n, N⟩ σ2 H2)) : tFor wi g t ⟨n, r, b, c⟩ σ H := q
theorem rd_iList {R : It → Hp → Prop} (q : te σ H fun x H1 => ∃ a, x = .ref a ∧ (∃ xs, SqL K H1 a xs) ∧ R (Itl K a) H1) : iList K te σ H R := q
theorem rd_iTup {R : It → Hp → Prop} (q : te σ H fun x H1 => ∃ a, x = .ref a ∧ (∃ xs, SqT K H1 a xs) ∧ R (Itt K a) H1) : iTup K te σ H R := q
theorem rd_iStr {R : It → Hp → Prop} (q : te σ H fun v H1 => ∃ x, v = .str x ∧ R (Its x) H1) : iStr te σ H R := q
theorem rd_exstr {z : Str} {R : Str → Prop} (q : R z) : ∃ x, V.str z = .str x ∧ R x := ⟨z, rfl, q⟩
theorem rd_iEnS {R : It → Hp → Prop} (q : al σ H fun vs H1 => ∃ x, vs = [.str x] ∧ R (Iten x) H1) : iEnS al σ H R := q
theorem rd_exstr1 {z : Str} {R : Str → Prop} (q : R z) : ∃ x, [V.str z] = [.str x] ∧ R x := ⟨z, rfl, q⟩
theorem rd_rng1 {R : It → Hp → Prop} (q : al σ H fun vs H1 => ∃ j : Int, vs = [.int j] ∧ -(2 ^ 62) ≤ j ∧ j < 2 ^ 62 ∧ R (Itr 0 j.toNat) H1) : iRng1 al σ H R := q
theorem rd_rng2 {R : It → Hp → Prop} (q : al σ H fun vs H1 => ∃ i j : Int, vs = [.int i, .int j] ∧ (-(2 ^ 62) ≤ i ∧ i < 2 ^ 62 ∧ -(2 ^ 62) ≤ j ∧ j < 2 ^ 62) ∧ R (Itr i (j - i).toNat) H1) : iRng2 al σ H R := q
theorem rd_lc {wi : TI} {g : TG} {vs : List Nat} (q : wi σ H fun J H1 => ∀ D, H1 D = none → ∃ W : Nat → Nat → Hp → Prop, (∃ m, W 0 m (upd H1 D (.lst []))) ∧ ∀ i m H, W i m H →
  (J.stop i H ∧ Q (.ref D) H) ∨ (J.go i H ∧ ∃ Nx : Hp → Prop, (∀ H', Nx H' → ∃ m', m' < m ∧ W (i + 1) m' H') ∧ ∀ x H', J.yld i H x H' → g x (wipe σ vs) H' fun σ2 H2 => wipe σ2 vs = wipe σ vs ∧ tt σ2 H2 fun b H3 =>
    if b = true then te σ2 H3 fun y H4 => ∃ acc, H4 D = some (.lst acc) ∧ acc.length < sizeLine ∧ Nx (upd H4 D (.lst (acc ++ [y]))) else Nx H3)) : tLc wi g tt te vs σ H Q := q
theorem ift {k : Bool} {A B : Prop} (h : k = true) (q : A) : if k = true then A else B := by rw [if_pos h]; exact q
theorem iff_ {k : Bool} {A B : Prop} (h : k = false) (q : B) : if k = true then A else B := by rw [if_neg (by rw [h]; exact Bool.false_ne_true)]; exact q
theorem ifb {k : Bool} {A B : Prop} (p : k = true → A) (q : k = false → B) : if k = true then A else B := by
  cases k
  · exact iff_ rfl (q rfl)
  · exact ift rfl (p rfl)
theorem ifd {φ : Prop} [Decidable φ] {A B : Prop} (p : φ → A) (q : ¬ φ → B) : if decide φ = true then A else B := ifb (fun h => p (of_decide_eq_true h)) (fun h => q (of_decide_eq_false h))
theorem ifnd {φ : Prop} [Decidable φ] {A B : Prop} (p : ¬ φ → A) (q : φ → B) : if (!decide φ) = true then A else B := by
  by_cases h : φ
  · exact iff_ (by rw [decide_eq_true h]; rfl) (q h)
  · exact ift (by rw [decide_eq_false h]; rfl) (p h)
end
end U
namespace U
open PySem PySem.Spec PyProof.Rows L2
section
variable {X : Cx} {x : Str} {pos : Pos}
theorem pe_gI {i : Int} (hg : Gl X x) (h : ∃ t, X.mg x = some (.int i t)) (hd : (x == ("__debug__" : Str)) = false := by decide) : PE X (.Name x pos) (tC (.int i)) := by
  obtain ⟨t, h⟩ := h
  exact pe_glob hg h ⟨t, rfl⟩ hd
theorem pe_gS {l : List Nat} (hg : Gl X x) (h : ∃ t, X.mg x = some (.str (S l) t)) (hd : (x == ("__debug__" : Str)) = false := by decide) : PE X (.Name x pos) (tC (.str (S l))) := by
  obtain ⟨t, h⟩ := h
  exact pe_glob hg h ⟨t, rfl⟩ hd
end
/-! ### the head's facts, the statics and Bool facts of one's own among them -/
abbrev frU (g : Addr → Option Obj) (n : Nat) : PySem.W.Frag := He.frG g (cStatics :: He.asD g n)
def lookB (K : PySem.W.Frag) : Bool := decide (PySem.W.nsIn K cStatics digName = some none)
def obsU (n : Nat) (fa : List He.Fa) (fn : List He.DefD) (ex : PySem.W.Frag → Bool) (g : Addr → Option Obj) : He.AlD × Bool := (He.obsD fa fn (frU g n), lookB (frU g n) && ex (frU g n))
def hookU (n : Nat) (fa : List He.Fa) (fn : List He.DefD) (ex : PySem.W.Frag → Bool) : PySem.W.Hook where
  α := He.AlD × Bool
  obs := fun s => obsU n fa fn ex s.heap.get?
  val := fun _ => (He.valD fn, true)
  says := fun _ h => ∃ K : PySem.W.Frag, K.In h ∧ He.SaysD fa fn K ∧ PySem.W.nsIn K cStatics digName = some none ∧ ex K = true
  of := fun _ _ e => ⟨_, He.frG_in, congrArg (fun z : He.AlD × Bool => z.1) e, of_decide_eq_true (He.ba (congrArg (fun z : He.AlD × Bool => z.2) e)).1, (He.ba (congrArg (fun z : He.AlD × Bool => z.2) e)).2⟩
  keeps := fun _ _ _ ⟨K, hK, c⟩ k => ⟨K, PySem.W.Frag.In.keeps hK k, c⟩
theorem obsU_eq {n : Nat} {fa : List He.Fa} {fn : List He.DefD} {ex : PySem.W.Frag → Bool} {g : Addr → Option Obj} {s : Shared} (h : ∀ a, g a = s.heap.get? a) : obsU n fa fn ex g = (hookU n fa fn ex).obs s := by
  have e : g = s.heap.get? := funext h
  rw [e] <;> rfl
/-- a def holds its promise -/
theorem mkFnn {P : Program} {w : World} {K : PySem.W.Frag} {mg : Str → Option Value} {base : Heap} {x qual : Str} {params : Arguments} {body : List Stmt} {scope : Scope} {N ps : List Str} {k : Nat} {sp : Sp}
    (D : ∃ fd, FunD K x qual params body scope [] [] (He.ga K x) fd) (g : mg x = some (.ref (He.ga K x))) (Sc : FnScope N ps scope)
    (hb : ∀ (kV doc pm : Value) (an : Option Addr) (cdv ct : Value) (us : List Value), us.length = ps.length → bindArgs (PySem.W.fnOf x qual params body scope .none kV doc pm an cdv ct) ⟨us, []⟩ = pure (ps.zip us))
    (len : ∀ vs H Q E, sp vs H Q E → vs.length = ps.length)
    (hbody : ∀ (cdv : Value) (A : Around) (outer : List Env) (s : Shared) (H : Hp) (vs : List V) (Q : VK) (E : XK), Room k (A.deeper (envOfC qual scope s.heap.objs.size (He.ga K x) cdv)) → sp vs H Q E →
      ∃ t, PSs (cxOf (L2.CX P w) P w K mg base N qual scope (He.ga K x) cdv A outer s H E) body t ∧ t { nx := fun _ H' => Q .non H', rt := Q } (start N vs) H) : Fnn P w K mg base x (k + 1) ps sp := by
  obtain ⟨fd, D⟩ := D
  exact ⟨fd, D.ok Sc len hbody, g, D.kp, D.bindsN hb⟩
theorem mkFnm {P : Program} {w : World} {K : PySem.W.Frag} {mg : Str → Option Value} {base : Heap} {C : Addr} {x qual : Str} {params : Arguments} {body : List Stmt} {scope : Scope} {N ps : List Str} {k : Nat} {sp : Sp}
    (D : ∃ fd, FunD K x qual params body scope [] [] (He.ma K C x) fd) (g : Meth K C x (He.ma K C x)) (Sc : FnScope N ps scope)
    (hb : ∀ (kV doc pm : Value) (an : Option Addr) (cdv ct : Value) (us : List Value), us.length = ps.length → bindArgs (PySem.W.fnOf x qual params body scope .none kV doc pm an cdv ct) ⟨us, []⟩ = pure (ps.zip us))
    (len : ∀ vs H Q E, sp vs H Q E → vs.length = ps.length)
    (hbody : ∀ (cdv : Value) (A : Around) (outer : List Env) (s : Shared) (H : Hp) (vs : List V) (Q : VK) (E : XK), Room k (A.deeper (envOfC qual scope s.heap.objs.size (He.ma K C x) cdv)) → sp vs H Q E →
      ∃ t, PSs (cxOf (L2.CX P w) P w K mg base N qual scope (He.ma K C x) cdv A outer s H E) body t ∧ t { nx := fun _ H' => Q .non H', rt := Q } (start N vs) H) : Fnm P w K mg base C x (k + 1) ps sp := by
  obtain ⟨fd, D⟩ := D
  exact ⟨fd, D.ok Sc len hbody, g, D.bindsN hb⟩
end U
namespace U
open PySem PySem.Spec PyProof.Rows L2
/-! ### plain data in the heap -/
def tyN : PyData → String
  | .none => "NoneType"
  | .bool _ => "bool"
  | .int _ => "int"
  | .str _ => "str"
  | .list _ => "list"
  | .tuple _ => "tuple"
  | .dict _ => "dict"
section
variable {K : PySem.W.Frag} {H H' : Hp} {Q : VK}
theorem Dp.tyx {v : V} {d : PyData} (h : Dp K H v d) : TyX K H v (.type (tyN d)) := by
  cases h with
  | non => exact .base .non
  | bl b => exact .base (.bl b)
  | int i => exact .base (.int i)
  | str x => exact .base (.str x)
  | lst q _ => exact tyx_l q
  | tup q _ => exact tyx_t q
theorem uIsi_D {v : V} {d : PyData} {n : String} {b : Bool} (h : Dp K H v d) (k : kitB (tyN d) n = some b) (q : Q (.bl b) H) : rIsi K [v, .ty n] H Q := uIsi_ty (Dp.tyx h) k q
theorem SqT.keep {a : Addr} {xs : List V} (e : Same H H') (h : SqT K H a xs) : SqT K H' a xs := by
  rcases h with (h | ⟨o, h⟩) | h
  · exact .inl (.inl (e _ _ h))
  · exact .inl (.inr ⟨o, e _ _ h⟩)
  · exact .inr h
theorem SqT.of {a : Addr} {xs : List V} (h : H a = some (.tup xs)) : SqT K H a xs := .inl (.inl h)
mutual
theorem Dp.keep (e : Same H H') : ∀ {v : V} {d : PyData}, Dp K H v d → Dp K H' v d
  | _, _, .non => .non
  | _, _, .bl b => .bl b
  | _, _, .int i => .int i
  | _, _, .str x => .str x
  | _, _, .lst h a => .lst (e.seq h) (DpAll.keep e a)
  | _, _, .tup h a => .tup (SqT.keep e h) (DpAll.keep e a)
theorem DpAll.keep (e : Same H H') : ∀ {vs : List V} {ds : List PyData}, DpAll K H vs ds → DpAll K H' vs ds
  | _, _, .nil => .nil
  | _, _, .cons h a => .cons (Dp.keep e h) (DpAll.keep e a)
end
theorem DpAll.len : ∀ {vs : List V} {ds : List PyData}, DpAll K H vs ds → vs.length = ds.length
  | _, _, .nil => rfl
  | _, _, .cons _ a => congrArg Nat.succ (DpAll.len a)
theorem DpAll.get : ∀ {vs : List V} {ds : List PyData}, DpAll K H vs ds → ∀ {i : Nat} {v : V}, vs[i]? = some v → ∃ d, ds[i]? = some d ∧ Dp K H v d
  | _, _, .nil, i, v, h => by cases i <;> cases h
  | _, _, .cons h a, 0, v, e => by
    cases e
    exact ⟨_, rfl, h⟩
  | _, _, .cons h a, i + 1, v, e => DpAll.get a (i := i) e
theorem DpAll.snoc {v : V} {d : PyData} : ∀ {vs : List V} {ds : List PyData}, DpAll K H vs ds → Dp K H v d → DpAll K H (vs ++ [v]) (ds ++ [d])
  | _, _, .nil, q => .cons q .nil
  | _, _, .cons h a, q => .cons h (DpAll.snoc a q)
theorem Same.new {p : Addr} {o : HO} (h : H p = none) : Same H (upd H p o) := fun b u hb => by
  rw [upd_ne (fun z => by rw [z, h] at hb; cases hb)]
  exact hb
theorem Same.put {H0 : Hp} {p : Addr} {o : HO} (e : Same H0 H) (h : H0 p = none) : Same H0 (upd H p o) := fun b u hb => by
  rw [upd_ne (fun z => by rw [z, h] at hb; cases hb)]
  exact e b u hb
theorem upd_eq {p : Addr} {o : HO} : upd H p o p = some o := upd_same
end
/-! ### walks of texts -/
theorem walk_its {z : List Nat} : Walk (Its (S z)) z.length (fun _ => True) (fun i H x H' => H' = H ∧ ∃ c, z[i]? = some c ∧ x = .str (S [c])) :=
  ⟨fun i _ hi _ => by show i < (S z).cps.size; simpa using hi, fun _ _ => by show (S z).cps.size ≤ z.length; simp, fun i H x H' _ _ y => ⟨y.1, by obtain ⟨c, h, e⟩ := y.2; exact ⟨c, by simpa using h, e⟩⟩⟩
theorem walk_iten {z : List Nat} : Walk (Iten (S z)) z.length (fun _ => True) (fun i H x H' => ∃ T c, x = .ref T ∧ H T = none ∧ H' = upd H T (.tup [.int (i : Nat), .str (S [c])]) ∧ z[i]? = some c) :=
  ⟨fun i _ hi _ => by show i < (S z).cps.size; simpa using hi, fun _ _ => by show (S z).cps.size ≤ z.length; simp, fun i H x H' _ _ y => by
    obtain ⟨T, c, a1, a2, a3, a4⟩ := y
    exact ⟨T, c, a1, a2, a3, by simpa using a4⟩⟩
theorem take_succ' {α : Type} {l : List α} {i : Nat} {x : α} (h : l[i]? = some x) : l.take (i + 1) = l.take i ++ [x] := by
  rw [List.take_succ, h]
  rfl
theorem rd_yes {σ : L2.St} {H : Hp} {QB : Bool → Hp → Prop} (q : QB true H) : tYes σ H QB := q
/-- [e(sign) for sign in text], e without effect -/
theorem lc_its {z : List Nat} {i : Nat} {te : TE} {σ : L2.St} {H1 : Hp} {D : Addr} {Qd : Hp → Prop} (f : Nat → V) (hz : z.length ≤ sizeLine)
    (hw : ∀ v, wipe ((wipe σ [i]).set i v) [i] = wipe σ [i])
    (he : ∀ c ∈ z, ∀ (H' : Hp) (Q : VK), Q (f c) H' → te ((wipe σ [i]).set i (some (.str (S [c])))) H' Q)
    (hd : Qd (upd H1 D (.lst (z.map f)))) :
    ∃ W : Nat → Nat → Hp → Prop, (∃ m, W 0 m (upd H1 D (.lst []))) ∧ ∀ k m H, W k m H →
      ((Its (S z)).stop k H ∧ Qd H) ∨ ((Its (S z)).go k H ∧ ∃ Nx : Hp → Prop, (∀ H', Nx H' → ∃ m', m' < m ∧ W (k + 1) m' H') ∧ ∀ x H', (Its (S z)).yld k H x H' → gName i x (wipe σ [i]) H' fun σ2 H2 => wipe σ2 [i] = wipe σ [i] ∧ tYes σ2 H2 fun b H3 =>
        if b = true then te σ2 H3 fun y H4 => ∃ acc, H4 D = some (.lst acc) ∧ acc.length < sizeLine ∧ Nx (upd H4 D (.lst (acc ++ [y]))) else Nx H3) := by
  refine lc_it walk_its (fun k H => H = upd H1 D (.lst ((z.take k).map f))) rfl (fun _ _ _ _ => True.intro) ?_ ?_
  · rintro k x H H' hk rfl ⟨rfl, c, hc, rfl⟩
    refine ⟨hw _, ?_⟩
    refine rd_yes (ift rfl ?_)
    refine he c (List.mem_of_getElem? hc) _ _ ⟨_, upd_same, ?_, ?_⟩
    · rw [List.length_map, List.length_take]
      omega
    · rw [upd_upd, take_succ' hc, List.map_append]
      rfl
  · rintro H rfl
    rw [List.take_length]
    exact hd
end U
namespace U
open PySem PySem.Spec PyProof.Rows L2
section
variable {X : Cx} {K : PySem.W.Frag}
theorem kOp {f : Value → Value → Sem Value} (r : PySem.W.Frag → R2) (h : OpR X f (r X.K)) (e : X.K = K) : OpR X f (r K) := e ▸ h
theorem kIx (r : PySem.W.Frag → R2) (h : IxR X (r X.K)) (e : X.K = K) : IxR X (r K) := e ▸ h
theorem kSl (r : PySem.W.Frag → V → Option Int → Option Int → Hp → VK → Prop) (h : SlR X (r X.K)) (e : X.K = K) : SlR X (r K) := e ▸ h
theorem kC {f : Value} (r : PySem.W.Frag → List V → Hp → VK → Prop) (h : CallR X f (r X.K)) (e : X.K = K) : CallR X f (r K) := e ▸ h
variable {tg l o e a : Expr} {es : List Expr} {te ta tv : TE} {t : TA} {f : Str} {pos pos' p2 apos cpos : Pos}
theorem pi_listK (hl : PE X l te) (h : X.K = K) : PI X tg l (iList K te) := h ▸ pi_list hl
theorem pi_tupK (hl : PE X l te) (h : X.K = K) : PI X tg l (iTup K te) := h ▸ pi_tup hl
theorem pe_fldK (he : PE X e ta) (h : X.K = K) (hb : attributeBase e f X.env (eval e X.env) = eval e X.env := by rfl) : PE X (.Attribute e f pos) (tFld K ta f) := h ▸ pe_fld he hb
theorem ps_fldK (ha : PE X o ta) (hv : PE X e tv) (h : X.K = K) (hs : swapsWith e (some (.Attribute o f pos')) pos.line X.env = pure false := by rfl) : PS X (.Assign [.Attribute o f pos'] e pos) (sFld K ta tv f) := h ▸ ps_fld ha hv hs
theorem pg_tupK {k n : Nat} {t : TGs} (hc : X.calm = true) (hg : PGs X es t) (h : X.K = K) (hn : (assignEach es X.env).length = n := by rfl) (hst : (assignEach es X.env).findIdx? (·.1) = none := by rfl) : PG X (.Tuple es k pos) (gTup K n t) := h ▸ pg_tup hc hg hn hst
variable {T id : String} {r : V → List V → Hp → VK → Prop} {name : Str}
theorem pe_bm0K (pa : PlainAttrs T) (slot : Slot T name id) (hty : typeOf (.builtin id) = pure (.type "method_descriptor")) (hm : MtR X id r) (ho : PE X o ta) (h : X.K = K)
    (hbase : attributeBase o name X.env (eval o X.env) = eval o X.env := by rfl) (hline : (apos.endLine == cpos.line) = true := by rfl) : PE X (.Call (.Attribute o name apos) [] [] cpos) (tBM0 K T r ta) := h ▸ pe_bm0 pa slot hty hm ho hbase hline
theorem pe_bmK (pa : PlainAttrs T) (slot : Slot T name id) (hty : typeOf (.builtin id) = pure (.type "method_descriptor")) (hm : MtR X id r) (ho : PE X o ta) (ha : PA X (e :: es) t) (h : X.K = K)
    (hbase : attributeBase o name X.env (eval o X.env) = eval o X.env := by rfl)
    (hfew : ((backTo cpos (starEach (e :: es) X.env)).all (fun x => !x.1) && (backToKw cpos (keywordEach [] X.env)).all (fun x => x.1.isSome)
      && decide ((e :: es).length + ([] : List Keyword).length + (if ([] : List Keyword).isEmpty then 0 else 1) < 30)) = true := by rfl)
    (hline : (apos.endLine == cpos.line) = true := by rfl) (hs : starEach (e :: es) X.env = (false, eval e X.env) :: starEach es X.env := by rfl) (hplain : (backTo cpos (starEach es X.env)).any (·.1) = false := by rfl) :
    PE X (.Call (.Attribute o name apos) (e :: es) [] cpos) (tBM K T r ta t) := h ▸ pe_bm pa slot hty hm ho ha hbase hfew hline hs hplain
/-- sep.join(list | tuple of texts) -/
def uJoin (K : PySem.W.Frag) : V → List V → Hp → VK → Prop := fun x xs H Q => ∃ a p, ∃ ys : List Str, x = .str a ∧ xs = [.ref p] ∧ (SqL K H p (ys.map V.str) ∨ SqT K H p (ys.map V.str)) ∧
      (ys.map (·.length)).sum + ys.length * a.length ≤ 16777216 ∧ Q (.str (Txt.join a ys)) H
theorem pe_joinK (ho : PE X o ta) (he : PE X e te) (h : X.K = K) (hs : starEach [e] X.env = [(false, eval e X.env)] := by rfl) (hbase : attributeBase o "join" X.env (eval o X.env) = eval o X.env := by rfl) (hline : (apos.endLine == pos.line) = true := by rfl) :
    PE X (.Call (.Attribute o "join" apos) [e] [] pos) (tM1 (uJoin K) ta te) := h ▸ pe_join ho he hs hbase hline
theorem rd_st {t : TE} {σ σ' : L2.St} {H : Hp} {Q : VK} (e : σ = σ') (h : t σ' H Q) : t σ H Q := e ▸ h
theorem fo_it {J : It} {n : Nat} {G : Hp → Prop} {Y : Nat → Hp → V → Hp → Prop} (w : Walk J n G Y) {g : TG} {tb : TS} {nx : L2.St → Hp → Prop} {rt : VK} {σ : L2.St} {H : Hp} (Pv : Nat → L2.St → Hp → Prop) (h0 : Pv 0 σ H) (hG : ∀ i σ H, i ≤ n → Pv i σ H → G H)
    (hs : ∀ i x σ H H', i < n → Pv i σ H → Y i H x H' → g x σ H' fun σ2 H2 => tb ⟨Pv (i + 1), rt, nx, Pv (i + 1)⟩ σ2 H2) (hd : ∀ σ H, Pv n σ H → nx σ H) :
    ∃ W : Nat → Nat → L2.St → Hp → Prop, (∃ m, W 0 m σ H) ∧ ∀ i m σ H, W i m σ H →
      (J.stop i H ∧ nx σ H) ∨ (J.go i H ∧ ∃ N : L2.St → Hp → Prop, (∀ σ' H', N σ' H' → ∃ m', m' < m ∧ W (i + 1) m' σ' H') ∧ ∀ x H', J.yld i H x H' → g x σ H' fun σ2 H2 => tb ⟨N, rt, nx, N⟩ σ2 H2) :=
  for_it (D := ⟨nx, rt, nx, nx⟩) w Pv h0 hG hs hd
theorem rd_while {c : TT} {tb : TS} {n b c' : L2.St → Hp → Prop} {r : VK} {σ : L2.St} {H : Hp} (Pv : L2.St → Hp → Prop) (μ : L2.St → Hp → Nat) (h0 : Pv σ H)
    (hs : ∀ σ H m, Pv σ H → m = μ σ H → c σ H fun k H1 => if k = true then tb ⟨fun σ' H' => Pv σ' H' ∧ μ σ' H' < m, r, n, fun σ' H' => Pv σ' H' ∧ μ σ' H' < m⟩ σ H1 else n σ H1) 
    (mono : ∀ σ H Q Q', (∀ b H1, Q b H1 → Q' b H1) → c σ H Q → c σ H Q') : tWhile c tb ⟨n, r, b, c'⟩ σ H := by
  refine while_by Pv μ h0 (fun σ H p => ?_) mono
  exact hs σ H _ p rfl
theorem S_map (ls : List (List Nat)) : (ls.map fun l => V.str (S l)) = (ls.map S).map V.str := by rw [List.map_map]; rfl
theorem S_lens (ls : List (List Nat)) : ((ls.map S).map (·.length)) = ls.map List.length := by
  rw [List.map_map]
  exact List.map_congr_left fun l _ => S_len l
theorem uJoin_l {K : PySem.W.Frag} {H : Hp} {Q : VK} {a : List Nat} {ls : List (List Nat)} {p : Addr} (h : SqL K H p (ls.map fun l => V.str (S l))) (hz : (ls.map List.length).sum + ls.length * a.length ≤ 16777216) (q : Q (.str (S (TL.joinL a ls))) H) : uJoin K (.str (S a)) [.ref p] H Q := by
  refine ⟨S a, p, ls.map S, rfl, rfl, .inl (by rw [← S_map]; exact h), ?_, ?_⟩
  · rw [S_lens, List.length_map, S_len]
    exact hz
  · rw [SX.join_S]
    exact q
end
end U
namespace U
open PySem PySem.Spec PyProof.Rows L2
theorem rds_st {t : TS} {D : Ends} {σ σ' : L2.St} {H : Hp} (e : σ = σ') (h : t D σ' H) : t D σ H := e ▸ h
theorem ifj {c : Bool} {A B R : Prop} (ha : c = true → R → A) (hb : c = false → R → B) (q : R) : if c = true then A else B := ifb (fun h => ha h q) (fun h => hb h q)
theorem ifjd {φ : Prop} [Decidable φ] {A B R : Prop} (ha : φ → R → A) (hb : ¬ φ → R → B) (q : R) : if decide φ = true then A else B := ifd (fun h => ha h q) (fun h => hb h q)
theorem sIx_none {n d : Nat} : HT.sIx n d none = d := rfl
theorem sIx_nat {n d i : Nat} : HT.sIx n d (some (i : Int)) = min i n := by
  unfold HT.sIx
  simp only []
  split <;> omega
theorem cut_from {z : List Nat} {i : Nat} : cutL z (some (i : Int)) none = z.drop i := by
  unfold cutL
  rw [sIx_nat, sIx_none]
  by_cases h : i ≤ z.length
  · rw [Nat.min_eq_left h, List.take_of_length_le (by rw [List.length_drop]; omega)]
  · rw [Nat.min_eq_right (by omega), List.drop_eq_nil_of_le (Nat.le_refl _), List.drop_eq_nil_of_le (by omega), List.take_nil]
theorem cut_to {z : List Nat} {i : Nat} : cutL z none (some (i : Int)) = z.take i := by
  unfold cutL
  rw [sIx_nat, sIx_none, List.drop_zero]
  by_cases h : i ≤ z.length
  · rw [Nat.min_eq_left h]
    rfl
  · rw [Nat.min_eq_right (by omega), List.take_of_length_le (by omega), List.take_of_length_le (by omega)]
theorem cut_ft {z : List Nat} {i j : Nat} : cutL z (some (i : Int)) (some (j : Int)) = (z.take j).drop i := by
  unfold cutL
  rw [sIx_nat, sIx_nat]
  by_cases h : i ≤ z.length
  · rw [Nat.min_eq_left h]
    by_cases h2 : j ≤ z.length
    · rw [Nat.min_eq_left h2, List.drop_take]
    · rw [Nat.min_eq_right (Nat.le_of_not_le h2), List.take_of_length_le (by rw [List.length_drop]; omega), List.take_of_length_le (by omega)]
  · have h' : z.length ≤ i := by omega
    rw [Nat.min_eq_right h', List.drop_eq_nil_of_le (Nat.le_refl _), List.drop_eq_nil_of_le (by rw [List.length_take]; omega), List.take_nil]
end U
namespace U
open PySem PySem.Spec PyProof.Rows L2
section
variable {K : PySem.W.Frag} {H : Hp} {Q : VK} {σ : L2.St} {R : L2.St → Hp → Prop}
theorem rd_gtup {a : Addr} {n : Nat} {xs : List V} {t : TGs} (h : SqT K H a xs) (hn : xs.length = n) (q : t xs σ H R) : gTup K n t (.ref a) σ H R := ⟨a, xs, rfl, h, hn, q⟩
theorem rd_gcons {v : V} {r : List V} {t : TG} {u : TGs} (q : t v σ H fun σ' H' => u r σ' H' R) : gCons t u (v :: r) σ H R := ⟨v, r, rfl, q⟩
theorem rd_gnil (q : R σ H) : gNil [] σ H R := ⟨rfl, q⟩
theorem rd_par {i j : Nat} {al : TA} {n b c : L2.St → Hp → Prop} {r : VK} (q : al σ H fun vs H1 => ∃ v w, vs = [v, w] ∧ gName i v σ H1 fun σ1 H2 => gName j w σ1 H2 n) : tPar i j al ⟨n, r, b, c⟩ σ H := q
theorem rd_two {x y : V} {R : V → V → Prop} (q : R x y) : ∃ v w, [x, y] = [v, w] ∧ R v w := ⟨x, y, rfl, q⟩
theorem rd_par3 {i j l : Nat} {al : TA} {n b c : L2.St → Hp → Prop} {r : VK} (q : al σ H fun vs H1 => ∃ u v w, vs = [u, v, w] ∧ gName i u σ H1 fun σ1 H2 => gName j v σ1 H2 fun σ2 H3 => gName l w σ2 H3 n) : tPar3 i j l al ⟨n, r, b, c⟩ σ H := q
theorem rd_three {x y z : V} {R : V → V → V → Prop} (q : R x y z) : ∃ u v w, [x, y, z] = [u, v, w] ∧ R u v w := ⟨x, y, z, rfl, q⟩
theorem ty_l {f : Addr} {xs : List V} (h : SqL K H f xs) : tyV K "list" (.ref f) H := .inl ⟨rfl, xs, h⟩
theorem sl {f : Addr} {xs : List V} (h : H f = some (.lst xs)) : SqL K H f xs := .inl (.inl h)
theorem ap_l {l : Addr} {xs : List V} {y : V} (h : H l = some (.lst xs)) (hz : xs.length < sizeLine) (q : Q .non (upd H l (.lst (xs ++ [y])))) : rAppend (.ref l) [y] H Q := ⟨l, xs, y, rfl, rfl, h, hz, q⟩
theorem pop_l {l : Addr} {xs : List V} {y : V} (h : H l = some (.lst (xs ++ [y]))) (q : Q y (upd H l (.lst xs))) : rPop (.ref l) [] H Q :=
  ⟨l, xs ++ [y], y, rfl, rfl, h, by simp, by rw [List.dropLast_concat]; exact q⟩
/-- a new list, a new tuple -/
theorem rd_newL {al : TA} (q : al σ H fun xs H1 => xs.length ≤ sizeLine ∧ ∀ p, H1 p = none → Q (.ref p) (upd H1 p (.lst xs))) : tLst al σ H Q := q
theorem rd_seti {to ti : TE} {t : TSet} {v : V} (q : to σ H fun o H1 => ti σ H1 fun i H2 => t o i v H2 fun H3 => R σ H3) : gSub to ti t v σ H R := q
theorem st_l {p : Addr} {xs : List V} {k : Int} {j : Nat} {v : V} {R' : Hp → Prop} (h : H p = some (.lst xs)) (hj : ixN xs.length k = some j) (q : R' (upd H p (.lst (xs.set j v)))) : rSetL (.ref p) (.int k) v H R' := ⟨p, xs, k, j, rfl, rfl, h, hj, q⟩
theorem rd_nt {n b c : L2.St → Hp → Prop} {r : VK} (q : False) : tNever ⟨n, r, b, c⟩ σ H := q
end
end U
namespace U
open PySem PySem.Spec PyProof.Rows L2
theorem ifjH {c : Bool} {A B : Prop} {R : Hp → Prop} (φ : Hp → Prop) (ha : c = true → (∀ H1, φ H1 → R H1) → A) (hb : c = false → (∀ H1, φ H1 → R H1) → B) (q : ∀ H1, φ H1 → R H1) : if c = true then A else B := ifb (fun h => ha h q) (fun h => hb h q)
theorem ifjS {c : Bool} {A B : Prop} {R : L2.St → Hp → Prop} (φ : L2.St → Hp → Prop) (ha : c = true → (∀ σ H1, φ σ H1 → R σ H1) → A) (hb : c = false → (∀ σ H1, φ σ H1 → R σ H1) → B) (q : ∀ σ H1, φ σ H1 → R σ H1) : if c = true then A else B := ifb (fun h => ha h q) (fun h => hb h q)
theorem lk_here {k : Str} {v : V} {r : List (Str × V)} : List.lookup k ((k, v) :: r) = some v := by
  have e : (k == k) = true := beq_self_eq_true k
  simp only [List.lookup, e]
theorem lk_past {k g : Str} {v : V} {r : List (Str × V)} (h : (k == g) = false) : List.lookup k ((g, v) :: r) = List.lookup k r := by
  simp only [List.lookup, h]
theorem put_here {f : Str} {v x : V} {r : List (Str × V)} : putF f v ((f, x) :: r) = (f, v) :: r := if_pos rfl
theorem put_past {f g : Str} {v x : V} {r : List (Str × V)} (h : ¬ g = f) : putF f v ((g, x) :: r) = (g, x) :: putF f v r := if_neg h
section
variable {K : PySem.W.Frag} {H : Hp} {Q : VK}
theorem fld_at {a C dx : Addr} {fs : List (Str × V)} {f : Str} {v : V} {R : V → Prop} (h : H a = some (.ins C dx fs)) (c : Cls K C) (n : NoAttr K C f) (l : fs.lookup f = some v) (q : R v) :
    ∃ a' C dx fs v, V.ref a = .ref a' ∧ H a' = some (.ins C dx fs) ∧ Cls K C ∧ NoAttr K C f ∧ fs.lookup f = some v ∧ R v := ⟨a, C, dx, fs, v, rfl, h, c, n, l, q⟩
theorem sfld_at {a C dx : Addr} {fs : List (Str × V)} {f : Str} {y : V} {R : Hp → Prop} (h : H a = some (.ins C dx fs)) (c : Cls K C) (n : NoAttr K C f) (l : fs.length < 1000) (q : R (upd H a (.ins C dx (putF f y fs)))) :
    ∃ a' C dx fs, V.ref a = .ref a' ∧ H a' = some (.ins C dx fs) ∧ Cls K C ∧ NoAttr K C f ∧ fs.length < 1000 ∧ R (upd H a' (.ins C dx (putF f y fs))) := ⟨a, C, dx, fs, rfl, h, c, n, l, q⟩
/-- tuples stay -/
def KeepT (H H' : Hp) : Prop := ∀ a xs, H a = some (.tup xs) → H' a = some (.tup xs)
theorem KeepT.refl : KeepT H H := fun _ _ h => h
theorem KeepT.trans {H1 H2 : Hp} (a : KeepT H H1) (b : KeepT H1 H2) : KeepT H H2 := fun p xs h => b p xs (a p xs h)
theorem KeepT.of {H' : Hp} (s : Same H H') : KeepT H H' := fun a xs h => s a _ h
theorem KeepT.lst {p : Addr} {xs : List V} {o : HO} (h : H p = some (.lst xs)) : KeepT H (upd H p o) := fun a ys e => by
  rw [upd_ne (fun z => by rw [z, h] at e; cases e)]
  exact e
theorem KeepT.ins {p C dx : Addr} {fs : List (Str × V)} {o : HO} (h : H p = some (.ins C dx fs)) : KeepT H (upd H p o) := fun a ys e => by
  rw [upd_ne (fun z => by rw [z, h] at e; cases e)]
  exact e
theorem KeepT.new {p : Addr} {o : HO} (h : H p = none) : KeepT H (upd H p o) := KeepT.of (Same.new h)
end
end U
namespace U
open PySem PySem.Spec PyProof.Rows L2
/-- a def's call at one place alone: A (so that what A is told of may be used: no repr is under way there) -/
def RunAt (P : Program) (w : World) (K : PySem.W.Frag) (mg : Str → Option Value) (base : Heap) (A : Around) (f : Addr) (fd : FuncData) (ps : List Str) (sp : Sp) : Prop :=
  ∀ (outer : List Env) (s : Shared) (H : Hp) (args : Args) (us : List Value) (vs : List V) (Q : VK) (E : XK), Env0 P w K mg base A outer s H → BindsTo s fd args (ps.zip us) → Vals vs us → sp vs H Q E →
    codeAny (model P w) A (.call (.ref f) args) (CR (L2.CX P w) outer P w H s Q E) s
theorem runAt_of {P : Program} {w : World} {K : PySem.W.Frag} {mg : Str → Option Value} {base : Heap} {A : Around} {k : Nat} {x qual : Str} {params : Arguments} {body : List Stmt} {scope : Scope} {f : Addr} {fd : FuncData} {N ps : List Str} {sp : Sp}
    (D : FunD K x qual params body scope [] [] f fd) (S : FnScope N ps scope) (hr : Room (k + 1) A) (len : ∀ vs H Q E, sp vs H Q E → vs.length = ps.length)
    (hbody : ∀ (cdv : Value) (outer : List Env) (s : Shared) (H : Hp) (vs : List V) (Q : VK) (E : XK), Room k (A.deeper (envOfC qual scope s.heap.objs.size f cdv)) → sp vs H Q E →
      ∃ t, PSs (cxOf (L2.CX P w) P w K mg base N qual scope f cdv A outer s H E) body t ∧ t { nx := fun _ H' => Q .non H', rt := Q } (start N vs) H) : RunAt P w K mg base A f fd ps sp := by
  obtain ⟨oc, od, dV, kV, doc, pm, an, cdv, ct, osl, rfl, lk, code, _, _⟩ := D.ex
  intro outer s H args us vs Q E e0 hb r hsp
  have KX : K.In s.heap := e0.mod.kin.keeps fun b o e => (e0.bs b o e).1
  have kinds : ∀ y ∈ ps.zip us, scope.names.lookup y.1 = some .local ∨ (scope.names.lookup y.1 = some .cell ∧ ((cellsFrom (s.heap.objs.size + 1) scope.names []).lookup y.1).isSome = true) := by
    rintro ⟨n, v⟩ hy
    exact (S.par n (List.of_mem_zip hy).1).imp id fun q => ⟨q, PySem.W.cellsFrom_some _ _ _ (.inl q)⟩
  refine codeAny_call_function hr.depth (KX _ _ lk) rfl S.co S.gen rfl (PySem.W.codeRec_of KX code) (hb _ _ _ _ (wpAny_newFunctionEnv_cells S.kind kinds fun env he s1 x => ?_))
  cases he
  refine ⟨(e0.mod.nolimit.keeps fun b o e => (e0.bs b o e).1).keeps x.toInCall.keep, codeAny_func ?_⟩
  obtain ⟨t, ht, hq⟩ := hbody cdv outer s H vs Q E (hr.deeper _) hsp
  refine wpAny_mono (ht.run [] s1 (start N vs) H _ (inv_start S hr.hd e0 (len _ _ _ _ hsp) r x) hq) (fun fl s' hs => ?_) fun e s' hs => hs
  match fl, hs with
  | .ret u, ⟨v, σ', H', J, rv, q⟩ => exact ⟨v, H', J.os, J.bare, J.base, J.hok, rv, q⟩
  | .next, ⟨σ', H', J, q⟩ => exact ⟨V.non, H', J.os, J.bare, J.base, J.hok, rfl, q⟩
  | .brk, ⟨_, _, _, q⟩ => exact q.elim
  | .cont, ⟨_, _, _, q⟩ => exact q.elim
theorem callerA_guards : callerA.guards = some [] := rfl
theorem deeper_guards (A : Around) (env : Env) : (A.deeper env).guards = A.guards := rfl
/-- what stands hidden behind H: all but what H tracks -/
theorem law_at {P : Program} {w : World} {K : PySem.W.Frag} {mg mb : Str → Option Value} {fa a : Addr} {fd : FuncData} {x : Str} {sp : Sp} {s₁ : Shared} {vs : List Value} {H : Hp}
    (KX : K.In s₁.heap) (hns : s₁.heap.Ns mainGlobals mg) (hb : s₁.heap.Ns builtinsNs mb) (hbb : ∀ x : Str, x ≠ "__name__" → mb x = bootBuiltins x) (hlim : s₁.heap.NoLimit) (hg : s₁.gens = #[])
    (ha : s₁.heap.get? a = some { cls := .type "list", data := .seq vs.toArray }) (F : ∀ base : Heap, K.In base → base.Ns mainGlobals mg → RunAt P w K mg base callerA fa fd [x] sp)
    (hbind : BindsTo s₁ fd ⟨[.ref a], []⟩ [(x, .ref a)]) (hsp : sp [.ref a] H (fun v _ => v = .bl true) fun _ _ _ => False) (hO : Only H) (hok : HOk P w H s₁.heap) (hA : ∀ b, H b ≠ none → b = a ∧ K.lookup a = none) :
    codeAny (model P w) callerA (.call (.ref fa) ⟨[.ref a], []⟩) (fun r s' => r = .ok (.ret (.bool true)) ∧ OldK s₁.heap s'.heap ∧ s'.os = s₁.os ∧ AllBare s'.gens) s₁ := by
  have free : ∀ {b : Addr}, b ≠ a → H b = none := fun {b} hb => Classical.byContradiction fun q => hb (hA b q).1
  have ns' : ∀ {b : Addr} {m : Str → Option Value}, s₁.heap.Ns b m → (hidT s₁.heap H).Ns b m := fun {b m} ⟨o, es, ep, e, d, r⟩ => by
    refine ⟨o, es, ep, hidT_get e (free fun z => ?_), d, r⟩
    rw [z, ha] at e
    cases e
    cases d
  have kin : K.In (hidT s₁.heap H) := fun b o e => by
    refine hidT_get (KX b o e) (Classical.byContradiction fun q => ?_)
    obtain ⟨rfl, z⟩ := hA b q
    rw [e] at z
    cases z
  obtain ⟨mc, l1, l2⟩ := hlim
  have e0 : Env0 P w K mg (hidT s₁.heap H) callerA [] s₁ H := ⟨rfl, ⟨kin, ns' hns, ⟨mb, ns' hb, hbb⟩, mc, ns' l1, l2⟩, fun b o e => of_hidT e, Nat.le_of_eq (hidT_size _ _), trivial, (by intro b hb; cases hb), hok, .of_eq hg⟩
  refine codeAny_mono (F _ kin (ns' hns) [] s₁ H ⟨[.ref a], []⟩ [.ref a] [.ref a] _ _ e0 hbind (.cons rfl .nil) hsp) fun r s' h => ?_
  match r, h with
  | .error e, ⟨_, _, _, _, _, _, _, _, _, _, _, _, z⟩ => exact z.elim
  | .ok .next, h => exact h.elim
  | .ok .brk, h => exact h.elim
  | .ok .cont, h => exact h.elim
  | .ok (.ret u), ⟨v, H', os, bare, un, hok', r', q⟩ =>
    cases (show v = .bl true from q)
    cases (show u = Value.bool true from r')
    refine ⟨rfl, OldK.of_keep fun b o e => ?_, os, bare⟩
    rcases hO b with z | ⟨ob, xs, z⟩
    · exact un.keep b o e z (by intro h; cases h) (by simp)
    · obtain ⟨e1, _⟩ := hok b _ z
      obtain ⟨e2, _⟩ := hok' b _ (un.frzs b ob _ z)
      rw [e] at e1
      cases e1
      exact e2
/-- the law's call: the script is one of the module's own objects, or it is tracked, frozen -/
theorem law_callG {P : Program} {w : World} {K : PySem.W.Frag} {mg mb : Str → Option Value} {fa a : Addr} {fd : FuncData} {x : Str} {sp : Sp} {s₁ : Shared} {vs : List Value} {ns : List Int}
    (KX : K.In s₁.heap) (hns : s₁.heap.Ns mainGlobals mg) (hb : s₁.heap.Ns builtinsNs mb) (hbb : ∀ x : Str, x ≠ "__name__" → mb x = bootBuiltins x) (hlim : s₁.heap.NoLimit) (hg : s₁.gens = #[])
    (ha : s₁.heap.get? a = some { cls := .type "list", data := .seq vs.toArray }) (hi : IntsAre vs ns) (hl : ns.length ≤ sizeLine) (F : ∀ base : Heap, K.In base → base.Ns mainGlobals mg → RunAt P w K mg base callerA fa fd [x] sp)
    (hbind : ∀ (s : Shared) (u : Value), BindsTo s fd ⟨[u], []⟩ [(x, u)]) (hsp : ∀ H : Hp, Only H → SqL K H a (ns.map V.int) → sp [.ref a] H (fun v _ => v = .bl true) fun _ _ _ => False) :
    codeAny (model P w) callerA (.call (.ref fa) ⟨[.ref a], []⟩) (fun r s' => r = .ok (.ret (.bool true)) ∧ OldK s₁.heap s'.heap ∧ s'.os = s₁.os ∧ AllBare s'.gens) s₁ := by
  have rv := vals_ints hi
  have size : vs.length = ns.length := hi.length
  cases hk : K.lookup a with
  | some o =>
    have own := KX a o hk
    rw [ha] at own
    cases own
    have O0 : Only fun _ => none := fun _ => .inl rfl
    exact law_at KX hns hb hbb hlim hg ha F (hbind _ _) (hsp _ O0 (.inr ⟨_, vs.toArray, _, hk, rfl, rfl, rfl, by rw [List.size_toArray, size]; exact hl, rv⟩)) O0 (fun b u z => nomatch (show (none : Option HO) = some u from z)) fun b z => absurd rfl z
  | none =>
    have at_ : ∀ {b : Addr}, b ≠ a → upd (fun _ => none) a (.frz { cls := .type "list", data := .seq vs.toArray } (.lst (ns.map V.int))) b = none := fun h => upd_ne h
    have O1 : Only (upd (fun _ => none) a (.frz { cls := .type "list", data := .seq vs.toArray } (.lst (ns.map V.int)))) := fun b => by
      by_cases e : b = a
      · exact .inr ⟨_, _, by rw [e]; exact upd_same⟩
      · exact .inl (at_ e)
    refine law_at KX hns hb hbb hlim hg ha F (hbind _ _) (hsp _ O1 (.inl (.inr ⟨_, upd_same⟩))) O1 (fun b u z => ?_) fun b z => ⟨Classical.byContradiction fun e => z (at_ e), hk⟩
    by_cases e : b = a
    · subst e
      cases upd_same.symm.trans z
      exact ⟨ha, by rw [List.length_map]; exact hl, vs, _, rv, ha⟩
    · cases (at_ e).symm.trans z
/-- the end of a law's proof: as walk_ofE, for a law that calls repr -/
theorem walk_ofG {l : PySem.W.OpenLaw} {n : Nat} {q : Program} {loose : List Str} {XP : (Str → Option Value) → Heap → Prop} {YP : World → Heap → Prop} {d : DefRec} {x : Str}
    (hn : l.most = some n) (hn2 : n ≤ sizeLine) (hdf : d.params.defaults = [])
    (F : ∀ (w : World) (mg : Str → Option Value) (fa : Addr) (h : Heap), YP w h → h.Ns mainGlobals mg → mg d.name = some (.ref fa) →
      ∃ (K : PySem.W.Frag) (fd : FuncData) (sp : Sp), K.In h ∧ (∀ (s : Shared) (u : Value), BindsTo s fd ⟨[u], []⟩ [(x, u)]) ∧
        (∀ (H : Hp) (a : Addr) (ns : List Int), ns.length ≤ n → Only H → SqL K H a (ns.map V.int) → sp [.ref a] H (fun v _ => v = .bl true) fun _ _ _ => False) ∧
        ∀ base : Heap, K.In base → base.Ns mainGlobals mg → RunAt l.prog w K mg base callerA fa fd [x] sp) :
    PySem.W.WalkO q loose XP YP l.row.toRowW d [] (fun f vs => PySem.call f vs) := by
  refine Att.attach_call hn hdf fun w s₀ s₁ mg mb fa o pm cd doc a vs ns G Y ho hd hcd hmg hobj hints hlen hg => ?_
  obtain ⟨K, fd, sp, KX, hb, hsp, hF⟩ := F w mg fa _ Y G.T.g hmg
  exact law_callG KX G.T.g G.T.b G.T.builtins G.T.nolimit hg hobj hints (Nat.le_trans hlen hn2) hF hb fun H hO hS => hsp H a ns hlen hO hS
end U
namespace U
open PySem PySem.Spec PyProof.Rows L2
/-! ### exceptions of which more is known than the class: a family says what -/
structure Fam where
  Z : Value → Option Addr → Obj → Prop
  st : ∀ c d, PXN.Steady1 (Z c d)
  cl : ∀ {c d o}, Z c d o → o.cls = c
def famN : Fam := ⟨L2N.Zn, fun _ _ => L2N.Zn.steady, fun h => h.1⟩
/-- its arguments lie at d -/
def ArgAt (d : Option Addr) (o : Obj) : Prop := o.dict = none ∧ ∃ vs t, o.data = .fields vs ∧ vs[0]? = some (.ref t) ∧ d = some t
theorem argAt_st {d : Option Addr} : PXN.Steady1 (ArgAt d) := fun o v h => by
  obtain ⟨h1, vs, t, h2, h3, h4⟩ := h
  refine ⟨PXN.steady_dict o v h1, _, t, Obj.data_mapFields h2 _, ?_, h4⟩
  exact HotX.set_other (by decide) h3
def famM : Fam := ⟨fun c d o => o.cls = c ∧ ArgAt d o, fun _ _ => PXN.steady_and PXN.steady_cls argAt_st, fun h => h.1⟩
def famK : Fam := ⟨fun c d o => o.cls = c ∧ ArgAt d o ∧ PXN.CtxN o, fun _ _ => PXN.steady_and PXN.steady_cls (PXN.steady_and argAt_st PXN.steady_ctx), fun h => h.1⟩
def XEz (F : Fam) (X : Cx) (W : WX) (u : Value) (s' : Shared) : Prop :=
  ∃ (a : Addr) (B : Heap) (sI : Shared) (pins : List (Addr × Obj)) (σ : L2.St) (H : Hp) (cls : Value) (d : Option Addr),
    u = .ref a ∧ Inv X pins σ H sI ∧ (∀ b o, sI.heap.get? b = some o → b ∉ frs X.stack → B.get? b = some o) ∧ sI.heap.UpToSlots s'.heap ∧
      Sky B X.stack a (F.Z cls d) X.env.locals s'.heap ∧ H a = none ∧ s'.os = sI.os ∧ AllBare s'.gens ∧ W cls d σ H
def TakesZ (F : Fam) (X : Cx) (W : WX) : Prop := ∀ u s', XEz F X W u s' → X.xe u s'
def CXz (F : Fam) (P : Program) (w : World) (outer : List Env) (H : Hp) (s : Shared) (E : XK) (u : Value) (s' : Shared) : Prop :=
  ∃ (a : Addr) (B : Heap) (H' : Hp) (cls : Value) (d : Option Addr), u = .ref a ∧ HandSPX.FlyingZ B outer a (F.Z cls d) s'.heap ∧ HOk P w H' B ∧ UB (frs outer) H H' s.heap B s'.heap ∧ H' a = none ∧ s'.os = s.os ∧ AllBare s'.gens ∧ E cls d H'
/-- a weaker look at the object -/
theorem traced_imp {h B : Heap} {a : Addr} {Z Z' : Obj → Prop} {fl : Value} (z : ∀ o, Z o → Z' o) (x : HandSPX.TracedZ h B a Z fl) : HandSPX.TracedZ h B a Z' fl := by
  obtain ⟨oe, vs, T, oT, ts, he, hz, r⟩ := x
  exact ⟨oe, vs, T, oT, ts, he, z _ hz, r⟩
theorem flying_imp {h B : Heap} {l : List Env} {a : Addr} {Z Z' : Obj → Prop} (z : ∀ o, Z o → Z' o) (x : HandSPX.FlyingZ B l a Z h) : HandSPX.FlyingZ B l a Z' h := ⟨x.1, x.2.1, x.2.2.1, traced_imp z x.2.2.2⟩
theorem sky_imp {h B : Heap} {l : List Env} {a L : Addr} {Z Z' : Obj → Prop} (z : ∀ o, Z o → Z' o) (x : Sky B l a Z L h) : Sky B l a Z' L h := by
  rcases x with ⟨h1, h2, h3, oe, vs, h4, h5, h6⟩ | x | x
  · exact .inl ⟨h1, h2, h3, oe, vs, h4, z _ h5, h6⟩
  · exact .inr (.inl (flying_imp z x))
  · exact .inr (.inr ⟨x.1, x.2.1, x.2.2.1, traced_imp z x.2.2.2⟩)
/-- the same air, the object looked at in its heap -/
theorem sky_up {h B : Heap} {l : List Env} {a L : Addr} {Z Z' : Obj → Prop} (z : ∀ o, h.get? a = some o → Z' o) (x : Sky B l a Z L h) : Sky B l a Z' L h := by
  rcases x with ⟨h1, h2, h3, oe, vs, h4, h5, h6⟩ | ⟨h1, h2, h3, oe, vs, T, oT, ts, h4, h5, h6⟩ | ⟨h1, h2, h3, oe, vs, T, oT, ts, h4, h5, h6⟩
  · exact .inl ⟨h1, h2, h3, oe, vs, h4, z _ h4, h6⟩
  · exact .inr (.inl ⟨h1, h2, h3, oe, vs, T, oT, ts, h4, z _ h4, h6⟩)
  · exact .inr (.inr ⟨h1, h2, h3, oe, vs, T, oT, ts, h4, z _ h4, h6⟩)
section
variable {F : Fam} {X : Cx} {pins : List (Addr × Obj)} {σ : L2.St} {H : Hp} {sI s s' : Shared} {B : Heap} {W : WX} {E : XK}
/-- a call's exception, in our air: by the road of the class alone, then looked at -/
theorem XEz.of_call (I : Inv X pins σ H s) (hW : ∀ cls d H', E cls d H' → W cls d σ H') {u : Value} (c : CXz F X.prog X.w X.stack H s E u s') : XEz F X W u s' := by
  obtain ⟨a, B, H', cls, d, rfl, fl, hok, ub, na, os, ag, hE⟩ := c
  obtain ⟨oe, vs, T, oT, ts, he, hz, r⟩ := id fl.2.2.2
  have low : L2.XE X (fun c e τ G => c = cls ∧ e = oe.dict ∧ W cls d τ G) (.ref a) s' :=
    XE.of_call (E := fun c e G => c = cls ∧ e = oe.dict ∧ E cls d G) I (fun c e G h => ⟨h.1, h.2.1, hW _ _ _ h.2.2⟩)
      ⟨a, B, H', cls, oe.dict, rfl, ⟨fl.1, fl.2.1, fl.2.2.1, oe, vs, T, oT, ts, he, ⟨F.cl hz, rfl⟩, r⟩, hok, ub, na, os, ag, rfl, rfl, hE⟩
  obtain ⟨a', B', sI, pins', σ', H2, c2, d2, e2, I2, nb, up, sky, na2, os2, ag2, rfl, rfl, w⟩ := low
  cases e2
  exact ⟨a, B', sI, pins', σ', H2, c2, d, rfl, I2, nb, up, sky_up (fun o ho => by rw [he] at ho; cases ho; exact hz) sky, na2, os2, ag2, w⟩
theorem XEz.new {a : Addr} {oe : Obj} {vs : Array Value} {cls : Value} {d : Option Addr} (I : Inv X pins σ H sI) (k : ∀ b o, sI.heap.get? b = some o → s'.heap.get? b = some o) (hne : sI.heap.get? a = none) (he : s'.heap.get? a = some oe)
    (hz : F.Z cls d oe) (hd : oe.data = .fields vs) (h1 : vs[1]? = some .none) (na : H a = none) (os : s'.os = sI.os) (ag : AllBare s'.gens) (w : W cls d σ H) : XEz F X W (.ref a) s' := by
  have low : L2.XE X (fun c e τ G => c = cls ∧ e = oe.dict ∧ W cls d τ G) (.ref a) s' := XE.new (d := oe.dict) I k hne he ⟨F.cl hz, rfl⟩ hd h1 na os ag ⟨rfl, rfl, w⟩
  obtain ⟨a', B', sI, pins', σ', H2, c2, d2, e2, I2, nb, up, sky, na2, os2, ag2, rfl, rfl, w⟩ := low
  cases e2
  exact ⟨a, B', sI, pins', σ', H2, c2, d, rfl, I2, nb, up, sky_up (fun o ho => by rw [he] at ho; cases ho; exact hz) sky, na2, os2, ag2, w⟩
/-- it leaves the def -/
theorem XEz.leave (hs : X.stack = X.env :: X.outer) (hf : X.env.frame = some X.env.locals) (hex : X.ex = []) {E₁ : Value → Shared → Prop} (hW : ∀ cls d σ H, W cls d σ H → E cls d H) {u : Value} (x : XEz F X W u s') :
    wpAny (model X.prog X.w) X.A (leaving X.env u) (fun _ s'' => CXz F X.prog X.w X.outer X.H_0 X.s_0 E u s'') E₁ s' := by
  obtain ⟨a, B, sI, pins, σ, H, cls, d, rfl, I, nb, up, sky, na, os, ag, w⟩ := x
  have hfr : X.A.frames = some (X.env :: X.outer) := by rw [I.ok.frames, hs]
  have own : ∀ b o, X.s_0.heap.get? b = some o → b ∉ X.fs → b ∉ frs X.stack := fun b o e hb hm => by
    cases List.mem_cons.mp (I.stkSub b hm) with
    | inl z =>
      have h2 := I.ok.above
      rw [← z] at h2
      exact Nat.lt_irrefl _ (Nat.lt_of_lt_of_le (Heap.lt_size e) h2)
    | inr z => exact hb z
  have hex' : ∀ b, b ∉ X.ex := fun b hb => by rw [hex] at hb; cases hb
  have end_ : ∀ h', HandSPX.FlyingZ B X.outer a (F.Z cls d) h' → s'.heap.UpToSlots h' → CXz F X.prog X.w X.outer X.H_0 X.s_0 E (.ref a) { s' with heap := h' } := by
    intro h' fl up'
    have ub : UB (frs X.outer) X.H_0 H X.s_0.heap B h' :=
      { keep := fun b o e n hb => nb b o (I.base.keep b o e n hb (hex' b)) (own b o e hb)
        slot := fun b o e hb => by
          obtain ⟨_, o₀, e₀, hnf⟩ := I.ok.funs.mem hb
          rw [e] at e₀
          cases e₀
          obtain ⟨_, q1⟩ := I.base.slot b o e (I.ok.frf b hb) hb (hex' b)
          obtain ⟨_, q2⟩ := up b _ q1 hnf
          obtain ⟨sl, q3⟩ := up' b _ q2 hnf
          exact ⟨sl, q3⟩
        free := fun b o e n => I.base.free b o e n (hex' b)
        there := fun b o e hb => by
          obtain ⟨o', q1⟩ := I.base.there b o e (hex' b)
          exact ⟨o', nb b o' q1 (own b o e hb)⟩
        tups := I.base.tups
        frzs := I.base.frzs
        tbls := I.base.tbls }
    exact ⟨a, B, H, cls, d, rfl, fl, I.inGround nb, ub, na, os.trans I.os, ag, hW _ _ _ _ w⟩
  rw [hs] at sky
  rcases sky with ⟨hB, hn, hl, oe, vs, he, hz, hd, h1⟩ | fl | hd
  · exact PXN.leaving_firstZ (F.st _ _) hfr hl hf he hB hn hd h1 hz end_
  · exact PXN.leaves_onZ (F.st _ _) hfr hf fl end_
  · exact HandSPX.leaves_heldZ hf hd end_
/-- a def's own wish -/
theorem takes_ofZ (hs : X.stack = X.env :: X.outer) (hf : X.env.frame = some X.env.locals) (hex : X.ex = []) {E₁ : Value → Shared → Prop}
    (hx : X.xe = fun e s' => wpAny (model X.prog X.w) X.A (leaving X.env e) (fun _ s'' => CXz F X.prog X.w X.outer X.H_0 X.s_0 E e s'') E₁ s') : TakesZ F X (fun cls d _ H => E cls d H) := fun u s' x => by
  rw [hx]
  exact XEz.leave (W := fun cls d _ H => E cls d H) (E := E) hs hf hex (fun _ _ _ _ h => h) x
def PassZ (F : Fam) (X : Cx) (E : L2.St → XK) : Prop := ∀ σ, PassesAt (CXz F X.prog X.w) X σ (E σ)
theorem pa_tkZ (tk : TakesZ F X W) : PassZ F X (WE W) := fun σ _ _ _ e s' I c => tk e s' (XEz.of_call I (fun _ _ _ h => h) c)
end
end U
namespace U
open PySem PySem.Spec PyProof.Rows L2 HotX L2H
/-! ### making an exception with its message, and raising it -/
def MadeZ (F : Fam) (X : Cx) (pins : List (Addr × Obj)) (σ : L2.St) (Q : XK) (u : Value) (s' : Shared) : Prop :=
  ∃ (a : Addr) (oe : Obj) (vs : Array Value) (sI : Shared) (H' : Hp) (cls : Value) (d : Option Addr), u = .ref a ∧ Inv X pins σ H' sI ∧ (∀ b o, sI.heap.get? b = some o → s'.heap.get? b = some o) ∧ sI.heap.get? a = none ∧ s'.heap.get? a = some oe ∧
    F.Z cls d oe ∧ oe.data = .fields vs ∧ vs[1]? = some .none ∧ 4 < vs.size ∧ H' a = none ∧ s'.os = sI.os ∧ AllBare s'.gens ∧ Raises X cls ∧ Q cls d H'
def PMkZ (F : Fam) (X : Cx) (e : Expr) (t : L2.St → Hp → XK → Prop) : Prop :=
  ∀ (pins : List (Addr × Obj)) (s : Shared) (σ : L2.St) (H : Hp) (Q : XK), Inv X pins σ H s → t σ H Q → wpAny (model X.prog X.w) X.A (eval e X.env) (MadeZ F X pins σ Q) X.xe s
theorem PMkZ.imp {F G : Fam} {X : Cx} {e : Expr} {t : L2.St → Hp → XK → Prop} (h : PMkZ F X e t) (i : ∀ c d o, F.Z c d o → G.Z c d o) : PMkZ G X e t := fun pins s σ H Q I q =>
  thn (h pins s σ H Q I q) fun u s1 ⟨a, oe, vs, sI, H', cls, d, h1, h2, h3, h4, h5, h6, r⟩ => ⟨a, oe, vs, sI, H', cls, d, h1, h2, h3, h4, h5, i _ _ _ h6, r⟩
theorem kZ_mZ : ∀ c d o, famK.Z c d o → famM.Z c d o := fun _ _ _ h => ⟨h.1, h.2.1⟩
theorem ps_raiseZ {F : Fam} {X : Cx} {W : WX} {e : Expr} {t : L2.St → Hp → XK → Prop} {pos : Pos} (hc : X.calm = true) (tk : TakesZ F X W) (he : PMkZ F X e t) : PS X (.Raise (some e) none pos) (fun _ σ H => t σ H fun cls d H' => W cls d σ H') := by
  refine ⟨fun pins s σ H D I h => ?_⟩
  show wpAny _ _ (do standAt pos; raiseStmt X.env (some (do let v ← eval e X.env; standAt pos; pure v)) none) _ _ _
  refine wpAny_bind (wpAny_standAt (raise_made (I.ok.hd hc) (wpAny_bind (thn (he pins s σ H _ I h) fun u s1 hu => wpAny_bind (wpAny_standAt (wpAny_pure ?_))))))
  obtain ⟨a, oe, vs, sI, H', cls, d, rfl, J, k, hne, ha, hz, hd, h1, h4, na, os, ag, r, q⟩ := hu
  obtain ⟨r1, r2⟩ := r (model X.prog X.w) s1.heap (J.kIn.keeps k)
  exact ⟨a, oe, vs, cls, rfl, ha, F.cl hz, hd, h1, r1, r2, tk _ _ (XEz.new J k hne ha hz hd h1 na os ag q)⟩
/-- the reading of C(e): the message's tuple is laid at t -/
def tMsg (C : Addr) (ta : TE) : L2.St → Hp → XK → Prop := fun σ H Q => ta σ H fun x H1 => ∀ t, H1 t = none → Q (.ref C) (some t) (upd H1 t (.tup [x]))
theorem pmk_msg {X : Cx} {C : Addr} {bmB : List Value} {B newId initId : String} {x : Str} {e : Expr} {ta : TE} {p pos : Pos} (F : ExcBaseFacts B newId initId bmB) (q : PySem.W.excIn X.K C bmB newId = true) (gC : X.mg x = some (.ref C)) (kC : PySem.W.keepIn X.K (.ref C) = true)
    (r : Raises X (.ref C)) (hg : Gl X x) (he : PE X e ta) (hs : starEach [e] X.env = (false, eval e X.env) :: starEach [] X.env := by rfl) (hdb : (x == ("__debug__" : Str)) = false := by decide) :
    PMkZ famK X (.Call (.Name x p) [e] [] pos) (tMsg C ta) := by
  intro pins s σ H Q I h
  refine wpAny_Call_Name_kw (ld_glob I hg gC ?_ hdb)
  refine PySem.W.callWith_K (h₀ := X.base) I.ok.mod.kin kC ?_ hs (by rfl)
  rw [hs]
  show wpAny _ _ (spliced ((false, eval e X.env) :: backTo pos (starEach [] X.env))) _ _ s
  refine Calls.spliced_cons (thn (he.run pins s σ H _ I h) fun u s1 ⟨v, H1, I1, r1, q1⟩ => ?_)
  refine Calls.spliced_nil ⟨I1.kIn, ?_⟩
  show wpAny _ _ (call (.ref C) [u]) _ _ _
  obtain ⟨bm, N, nm, qn, bs, hdct, sn, sub, ab, col, dd, k0, k1, k2, k3, k5, mN, hC, hN, hni, T⟩ := exc_obj I1.kIn q
  refine wpAny_call_exc_subT F T hC hN hni (fun h' a hm => ?_) (by show 1 ≤ sizeLine; rw [sizeLine_eq]; omega)
  obtain ⟨t, ha, ht0, ht⟩ := hm.there
  have hat : t ≠ a := fun z => by
    rw [z, ha] at ht
    injection ht with ht
    injection ht with _ _ ht
    cases ht
  obtain ⟨G, g1, g2⟩ := restrict h' fun b => decide (b ≠ a)
  have gne : ∀ b, b ≠ a → G.get? b = h'.get? b := fun b hb => g1 b (decide_eq_true hb)
  have ga : G.get? a = none := g2 a (decide_eq_false (fun z => z rfl))
  have k1 : ∀ b o, s1.heap.get? b = some o → G.get? b = some o := fun b o e => by
    rw [gne b (fun z => by rw [z, hm.new] at e; cases e)]
    exact hm.keeps b o e
  have k2 : ∀ b o, G.get? b = some o → h'.get? b = some o := fun b o e => by
    rw [← gne b (fun z => by rw [z, ga] at e; cases e)]
    exact e
  have nt : H1 t = none := I1.hok.gone ht0
  have na : H1 a = none := I1.hok.gone hm.new
  have J : Inv X pins σ (upd H1 t (.tup [v])) { s1 with heap := G } :=
    I1.laidN (t' := s1.toks) k1 ht0 nt ⟨by show 1 ≤ sizeLine; rw [sizeLine_eq]; omega, [u], .cons r1 .nil, _, (gne t hat).trans ht, rfl, _, rfl⟩
  refine ⟨a, _, _, { s1 with heap := G }, _, .ref C, some t, rfl, J, k2, ga, ha, ⟨rfl, ⟨rfl, _, t, rfl, rfl, rfl⟩, fun vs e => by cases e; rfl⟩, rfl, rfl, by show (4 : Nat) < 6; decide, ?_, rfl, I1.bare, r, q1 t nt⟩
  rw [upd_ne (Ne.symm hat)]
  exact na
/-- raise C(e) from None, in an except suite -/
theorem ps_raiseHM {X : Cx} {W : WX} {e : Expr} {t : L2.St → Hp → XK → Prop} {j : Nat} {cpos pos : Pos} (hc : HotC X) (tk : TakesZ famM X W) (he : PMkZ famM X e t) :
    PS X (.Raise (some e) (some (.Constant .none j cpos)) pos) (fun _ σ H => t σ H fun cls d H' => W cls d σ H') := by
  refine ⟨fun pins s σ H D I h => ?_⟩
  obtain ⟨p, ⟨hh, v1, e1, c1⟩, hp⟩ := hc
  show wpAny _ _ (do standAt pos; raiseStmt X.env (some (do let v ← eval e X.env; standAt pos; pure v)) (some (do let v ← eval (.Constant .none j cpos) X.env; standAt pos; pure v))) _ _ _
  refine wpAny_bind (wpAny_standAt (HotX.raise_made_hotN (x1 := p.1) (fun s2 Q2 q2 => wpAny_bind (Constant_none (wpAny_bind (wpAny_standAt (wpAny_pure q2))))) (wpAny_bind (thn (he pins s σ H _ I h) fun u s1 hu => wpAny_bind (wpAny_standAt (wpAny_pure ?_))))))
  obtain ⟨a, oe, vs, sI, H', cls, d, rfl, J, k, hne, ha, hz, hd, h1, h4, na, os, ag, r, q⟩ := hu
  have away : ∀ {b : Addr} {o : Obj}, sI.heap.get? b = some o → a ≠ b := fun {b o} z y => by
    rw [← y, hne] at z
    cases z
  have k4 : ∀ b o, sI.heap.get? b = some o → (HotX.noneFrom s1.heap a).get? b = some o := fun b o z => (HotX.noneFrom_other (away z)).trans (k b o z)
  obtain ⟨r1, _⟩ := r (model X.prog X.w) s1.heap (J.kIn.keeps k)
  obtain ⟨_, r2⟩ := r (model X.prog X.w) (HotX.noneFrom s1.heap a) (J.kIn.keeps k4)
  have P1 := (J.pin p (List.mem_append_left _ hp)).1
  have nap : p.1 ≠ a := Ne.symm (away P1)
  obtain ⟨ha4, hd4⟩ := HotX.noneFrom_at ha hd
  obtain ⟨hcl, hdc, vs', t', hd', h0, ht'⟩ := hz
  rw [hd] at hd'
  cases hd'
  have keepF : ∀ {i : Nat} {y : Value}, i = 0 ∨ i = 1 → vs[i]? = some y → (((vs.setIfInBounds 3 Value.none).setIfInBounds 4 (Value.bool true)).setIfInBounds 2 (Value.ref p.1))[i]? = some y := fun {i y} hi z => by
    refine HotX.set_other ?_ (HotX.set_other ?_ (HotX.set_other ?_ z)) <;> omega
  have hd5 := Obj.data_mapFields hd4 (·.setIfInBounds 2 (Value.ref p.1))
  refine ⟨a, oe, vs, cls, rfl, ha, hcl, hd, h1, h4, nap, ⟨hh, p.2, v1, k _ _ P1, e1, c1⟩, r1, r2, tk _ _ (XEz.new J (fun b o z => ?_) hne (Heap.get?_update_self _ ha4 (Obj.isFreed_of_fields hd5))
    ⟨by rw [Obj.cls_mapFields, Obj.cls_mapFields, Obj.cls_mapFields]; exact hcl, by rw [HandSPX.dict_mapFields, HandSPX.dict_mapFields, HandSPX.dict_mapFields]; exact hdc, _, t', hd5, keepF (.inl rfl) h0, ht'⟩ hd5 (keepF (.inr rfl) h1) na os ag q)⟩
  show ((HotX.noneFrom s1.heap a).update a (Obj.mapFields (·.setIfInBounds 2 (.ref p.1)))).get? b = some o
  rw [Heap.get?_update_other _ _ (away z)]
  exact k4 b o z
end U
namespace U
open PySem PySem.Spec PyProof.Rows L2 HotX L2H
/-! ### a try of one clause that takes whatever the body lets out -/
def wTake (K : PySem.W.Frag) (c : Value) (ts : Addr → Value → Option Addr → TS) (D : Ends) : WX := fun cls d σ H => PySem.W.exmOne K cls c = some true ∧ ∀ a, H a = none → ts a cls d D σ H
def dropAt (i : Nat) (D : Ends) : Ends := { nx := fun σ H => D.nx (σ.set i none) H, rt := D.rt, bk := fun σ H => D.bk (σ.set i none) H, ct := fun σ H => D.ct (σ.set i none) H }
def wTakeAs (K : PySem.W.Frag) (c : Value) (i : Nat) (ts : Addr → Value → Option Addr → TS) (D : Ends) : WX := fun cls d σ H =>
  PySem.W.exmOne K cls c = some true ∧ ∀ a, H a = none → ts a cls d (dropAt i D) (σ.set i (some (.ref a))) H
section
variable {F : Fam} {X : Cx} {x n : Str} {c : Value} {i : Nat} {body suite : List Stmt} {b₀ : Stmt} {np pos pos' : Pos} {tb : WX → TS} {ts : Addr → Value → Option Addr → TS}
/-- noted and landed -/
theorem land_at {pins : List (Addr × Obj)} {W : WX} {xe : Value → Shared → Prop} {u : Value} {s' : Shared} {Q : Unit → Shared → Prop} (hs : X.stack = X.env :: X.outer) (hf : X.env.frame = some X.env.locals) (ok : X.Ok)
    (xx : XEz F (X.tr (X.pn ++ pins) xe) W u s')
    (k : ∀ (a : Addr) (σ : L2.St) (H : Hp) (cls : Value) (d : Option Addr) (h3 : Heap) (B : Heap), u = .ref a → H a = none → W cls d σ H → HandSPX.FlyingZ B (X.env :: X.outer) a (F.Z cls d) h3 →
      (∀ h4, HandSPX.FlyingZ B (X.env :: X.outer) a (F.Z cls d) h4 → h3 = h4 ∨ h3.UpToSlots h4 → ∃ oe vs, h4.get? a = some oe ∧ F.Z cls d oe ∧ oe.data = .fields vs ∧ Inv (X.suite a ((a, oe) :: (X.pn ++ pins))) [] σ H { s' with heap := h4 }) → Q () { s' with heap := h3 }) :
    wpAny (model X.prog X.w) X.A (noteFrame u X.env) (fun _ s₂ => wpAny (model X.prog X.w) X.A (setFlight u none) Q X.xe s₂) X.xe s' := by
  obtain ⟨a, B, sI, pins', σ, H, cls, d, rfl, J', nb, up, sky, na, os, ag, w⟩ := xx
  have J : Inv X pins σ H sI := J'.ofTry ok
  have hfr : X.A.frames = some (X.env :: X.outer) := by rw [ok.frames, hs]
  have sky' : Sky B (X.env :: X.outer) a (F.Z cls d) X.env.locals s'.heap := by rw [← hs]; exact sky
  refine L2N.Sky.land (F.st _ _) hfr hf sky' fun h3 fl3 up3 => k a σ H cls d h3 B rfl na w fl3 fun h4 fl4 up4 => ?_
  have up' : sI.heap.UpToSlots h4 := by
    rcases up4 with z | z
    · rw [← z]; exact up.trans up3
    · exact (up.trans up3).trans z
  have J4 : Inv X pins σ H { s' with heap := h4 } := J.landed nb fl4.1 up' os ag
  obtain ⟨oe, vs, he, hz, hd⟩ := fl4.there
  have nfr : a ∉ frs (X.env :: X.outer) := fun hm => by
    obtain ⟨_, o', e', hnf⟩ := fl4.2.2.1.mem hm
    rw [he] at e'
    cases e'
    exact hnf _ hd
  have nL : a ≠ X.env.locals := fun z => nfr (List.mem_filterMap.mpr ⟨X.env, List.mem_cons_self, by rw [hf, z]⟩)
  have nF : a ∉ X.fs := fun hm => by
    obtain ⟨e, q1, q2⟩ := List.mem_filterMap.mp hm
    exact nfr (List.mem_filterMap.mpr ⟨e, List.mem_cons_of_mem _ q1, q2⟩)
  exact ⟨oe, vs, he, hz, hd, J4.suite he hd na nL nF⟩
/-- the clause is right -/
theorem asked {a : Addr} {oe : Obj} {pn : List (Addr × Obj)} {σ : L2.St} {H : Hp} {s : Shared} {cls : Value} {R : Result → Shared → Prop} (hc : Names X x c) (he : s.heap.get? a = some oe) (hcl : oe.cls = cls) (S : Inv (X.suite a ((a, oe) :: pn)) [] σ H s)
    (hb : PySem.W.exmOne X.K cls c = some true) (h : R (.ok .brk) s) : codeAny (model X.prog X.w) (X.A.mark (some (.ref a))) (.handlers (.ref a) [.ExceptHandler (some (.Name x np)) none [] pos'] X.env) R s := by
  refine codeAny_handlers_test ?_
  have LT : PySem.W.Looks (model X.prog X.w) s.heap (typeOf (.ref a)) cls := fun A Q E s1 k q => wpAny_typeOf_ref (k _ _ he) (by rw [hcl]; exact q)
  have LM := PySem.W.exm_one (M := model X.prog X.w) (S.kIn) LT hb
  have yes : wpAny (model X.prog X.w) (X.A.mark (some (.ref a))) (excMatches (.ref a) c) (fun b s₂ => R (.ok (if b then .brk else .next)) s₂) (notedBy (model X.prog X.w) (X.A.mark (some (.ref a))) X.env fun x s₂ => R (.error x) s₂) s := LM.here h
  obtain ⟨hg, hdbg, hm | ⟨hm, hv, hnn⟩⟩ := hc
  · exact ld_glob (X := X.suite a ((a, oe) :: pn)) S hg hm yes hdbg
  · exact ld_blt (X := X.suite a ((a, oe) :: pn)) S hg hm hv yes hnn hdbg
/-- except x as n -/
theorem ps_take_as (hs : X.stack = X.env :: X.outer) (hf : X.env.frame = some X.env.locals) (hN : X.N.Nodup) (hi : X.N[i]? = some n) (hln : X.env.kindOf n = some .local) (hc : Names X x c)
    (hb : ∀ (W : WX) (pn : List (Addr × Obj)) (xe : Value → Shared → Prop), TakesZ F (X.tr pn xe) W → PassesOwn (model X.prog X.w) X.A X.env xe → PSs (X.tr pn xe) body (tb W))
    (hsu : ∀ (a : Addr) (oe : Obj) (cls : Value) (d : Option Addr) (pn : List (Addr × Obj)), F.Z cls d oe → (∃ vs, oe.data = .fields vs) → PSs (X.suite a ((a, oe) :: pn)) (b₀ :: suite) (ts a cls d)) :
    PS X (.Try body [.ExceptHandler (some (.Name x np)) (some n) (b₀ :: suite) pos'] [] [] pos) (fun D σ H => tb (wTakeAs X.K c i ts D) D σ H) := by
  refine ⟨fun pins s σ H D I h => ?_⟩
  have ok := I.ok
  have hloc : Loc X.env.scope n := .inl hln
  refine wpAny_Try_except ?_
  refine wpAny_mono ((hb (wTakeAs X.K c i ts D) (X.pn ++ pins) (fun e s₁ => wpAny (model X.prog X.w) X.A (noteFrame e X.env) (fun _ s₂ => wpAny (model X.prog X.w) X.A (setFlight e none) (fun _ s₃ =>
    wpAny (model X.prog X.w) X.A (handleBy e X.env [.ExceptHandler (some (.Name x np)) (some n) (b₀ :: suite) pos']) (SP X pins D) X.xe s₃) X.xe s₂) X.xe s₁) (fun u s' xx => ?_) PassesOwn.looking).run [] s σ H D (I.toTry _) h) (fun f s1 hsp => ?_) (fun e s1 he => he)
  · refine land_at hs hf ok xx fun a σ' H' cls d h3 B eu na w fl3 sn => ?_
    subst eu
    obtain ⟨hb1, hts⟩ := w
    obtain ⟨oe3, vs3, he3, hz3, hd3, S3⟩ := sn h3 fl3 (.inl rfl)
    refine wpAny_handleBy_cons (asked hc he3 (F.cl hz3) S3 hb1 ?_) (by intro q; cases q)
    refine codeAny_handlers_suite_as ?_
    refine HandSPX.lands_againZ fl3 fun h4 fl4 up4 => ?_
    obtain ⟨oe4, vs4, he4, hz4, hd4, S4⟩ := sn h4 fl4 (.inr up4)
    refine store_ok (X := X.suite a ((a, oe4) :: (X.pn ++ pins))) (v := .ref a) S4 hN hi hloc rfl (fun s5 S5 => ?_) (.inr hln)
    refine wpAny_mono ((hsu a oe4 cls d (X.pn ++ pins) hz4 ⟨_, hd4⟩).run [] s5 _ H' _ S5 (hts a na)) (fun f s6 hsp => ?_) (fun _ _ z => False.elim z)
    have gone : ∀ {σ6 : L2.St} {H6 : Hp} {Q : Shared → Prop}, Inv (X.suite a ((a, oe4) :: (X.pn ++ pins))) [] σ6 H6 s6 → (∀ s7, Inv X pins (σ6.set i none) H6 s7 → Q s7) →
        wpAny (model X.prog X.w) X.A (do bindName X.env n .none; unbindBehindTheSuite X.env n pos') (fun _ s7 => Q s7) X.xe s6 := fun {σ6 H6 Q} S6 hq => gone_ok (S6.unsuite ok) hN hi hln hq
    cases f with
    | next => obtain ⟨σ6, H6, S6, q6⟩ := hsp; exact gone S6 fun s7 J7 => ⟨_, _, J7, q6⟩
    | brk => obtain ⟨σ6, H6, S6, q6⟩ := hsp; exact gone S6 fun s7 J7 => ⟨_, _, J7, q6⟩
    | cont => obtain ⟨σ6, H6, S6, q6⟩ := hsp; exact gone S6 fun s7 J7 => ⟨_, _, J7, q6⟩
    | ret u => obtain ⟨v6, σ6, H6, S6, r6, q6⟩ := hsp; exact gone S6 fun s7 J7 => ⟨_, _, _, J7, r6, q6⟩
  · cases f with
    | next => obtain ⟨σ', H', J', q⟩ := hsp; exact wpAny_execs_nil ⟨σ', H', J'.ofTry ok, q⟩
    | brk => obtain ⟨σ', H', J', q⟩ := hsp; exact ⟨σ', H', J'.ofTry ok, q⟩
    | cont => obtain ⟨σ', H', J', q⟩ := hsp; exact ⟨σ', H', J'.ofTry ok, q⟩
    | ret u => obtain ⟨v, σ', H', J', r, q⟩ := hsp; exact ⟨v, σ', H', J'.ofTry ok, r, q⟩
/-- the outer wish, seen from the suite -/
theorem takes_suite {G : Fam} {a : Addr} {oe : Obj} {pins : List (Addr × Obj)} {Wout : WX} (ok : X.Ok) (tk : TakesZ G X Wout) : TakesZ G (suiteX X a ((a, oe) :: (X.pn ++ pins))) Wout := fun u2 s2 x2 => by
  obtain ⟨a2, B2, sI2, pn2, σ2, H2, cls2, d2, e2, I2, r⟩ := x2
  exact tk u2 s2 ⟨a2, B2, sI2, pins, σ2, H2, cls2, d2, e2, unsuiteX I2 ok, r⟩
/-- except x, a suite that may raise in its turn; the body's exceptions have no context -/
theorem ps_takeX {G : Fam} {Wout : WX} (hs : X.stack = X.env :: X.outer) (hf : X.env.frame = some X.env.locals) (hc : Names X x c) (hpa : ∀ hd : Option Value, PassesOwnAt (model X.prog X.w) (X.A.mark hd) X.A X.env X.xe) (tk : TakesZ G X Wout)
    (hn : ∀ c d o, F.Z c d o → PXN.CtxN o)
    (hb : ∀ (W : WX) (pn : List (Addr × Obj)) (xe : Value → Shared → Prop), TakesZ F (X.tr pn xe) W → PassesOwn (model X.prog X.w) X.A X.env xe → PSs (X.tr pn xe) body (tb W))
    (hsu : ∀ (a : Addr) (oe : Obj) (cls : Value) (d : Option Addr) (pn : List (Addr × Obj)), F.Z cls d oe → (∃ vs, oe.data = .fields vs) → TakesZ G (suiteX X a ((a, oe) :: pn)) Wout → HotC (suiteX X a ((a, oe) :: pn)) →
      PSs (suiteX X a ((a, oe) :: pn)) (b₀ :: suite) (ts a cls d)) :
    PS X (.Try body [.ExceptHandler (some (.Name x np)) none (b₀ :: suite) pos'] [] [] pos) (fun D σ H => tb (wTake X.K c ts D) D σ H) := by
  refine ⟨fun pins s σ H D I h => ?_⟩
  have ok := I.ok
  refine wpAny_Try_except ?_
  refine wpAny_mono ((hb (wTake X.K c ts D) (X.pn ++ pins) (fun e s₁ => wpAny (model X.prog X.w) X.A (noteFrame e X.env) (fun _ s₂ => wpAny (model X.prog X.w) X.A (setFlight e none) (fun _ s₃ =>
    wpAny (model X.prog X.w) X.A (handleBy e X.env [.ExceptHandler (some (.Name x np)) none (b₀ :: suite) pos']) (SP X pins D) X.xe s₃) X.xe s₂) X.xe s₁) (fun u s' xx => ?_) PassesOwn.looking).run [] s σ H D (I.toTry _) h) (fun f s1 hsp => ?_) (fun e s1 he => he)
  · refine land_at hs hf ok xx fun a σ' H' cls d h3 B eu na w fl3 sn => ?_
    subst eu
    obtain ⟨hb1, hts⟩ := w
    obtain ⟨oe3, vs3, he3, hz3, hd3, S3⟩ := sn h3 fl3 (.inl rfl)
    refine wpAny_handleBy_cons (asked hc he3 (F.cl hz3) S3 hb1 ?_) (by intro q; cases q)
    refine codeAny_handlers_suite ?_
    refine HandSPX.lands_againZ fl3 fun h4 fl4 up4 => ?_
    obtain ⟨oe4, vs4, he4, hz4, hd4, S4⟩ := sn h4 fl4 (.inr up4)
    have hot : HotC (suiteX X a ((a, oe4) :: (X.pn ++ pins))) := ⟨(a, oe4), ⟨rfl, vs4, hd4, hn _ _ _ hz4 vs4 hd4⟩, List.mem_cons_self⟩
    refine wpAny_mono ((hsu a oe4 cls d (X.pn ++ pins) hz4 ⟨_, hd4⟩ (takes_suite ok tk) hot).run [] _ _ H' _ (suiteX_of S4) (hts a na)) (fun f s6 hsp => ?_) (fun e6 s6 z => hpa (some (.ref a)) e6 s6 z)
    cases f with
    | next => obtain ⟨σ6, H6, S6, q6⟩ := hsp; exact ⟨_, _, unsuiteX S6 ok, q6⟩
    | brk => obtain ⟨σ6, H6, S6, q6⟩ := hsp; exact ⟨_, _, unsuiteX S6 ok, q6⟩
    | cont => obtain ⟨σ6, H6, S6, q6⟩ := hsp; exact ⟨_, _, unsuiteX S6 ok, q6⟩
    | ret u => obtain ⟨v6, σ6, H6, S6, r6, q6⟩ := hsp; exact ⟨_, _, _, unsuiteX S6 ok, r6, q6⟩
  · cases f with
    | next => obtain ⟨σ', H', J', q⟩ := hsp; exact wpAny_execs_nil ⟨σ', H', J'.ofTry ok, q⟩
    | brk => obtain ⟨σ', H', J', q⟩ := hsp; exact ⟨σ', H', J'.ofTry ok, q⟩
    | cont => obtain ⟨σ', H', J', q⟩ := hsp; exact ⟨σ', H', J'.ofTry ok, q⟩
    | ret u => obtain ⟨v, σ', H', J', r, q⟩ := hsp; exact ⟨v, σ', H', J'.ofTry ok, r, q⟩
end
end U
namespace U
open PySem PySem.Spec PyProof.Rows L2 HotX L2H
/-! ### a def, a method, whose exceptions are of a family -/
def FnZ (F : Fam) (P : Program) (w : World) (K : PySem.W.Frag) (mg : Str → Option Value) (base : Heap) (x : Str) (k : Nat) (ps : List Str) (sp : Sp) : Prop :=
  ∃ fd, FnOk P w K mg base (CXz F P w) k (He.ga K x) fd ps sp ∧ mg x = some (.ref (He.ga K x)) ∧ PySem.W.keepIn K (.ref (He.ga K x)) = true ∧ Binds K fd ps []
def MtZ (F : Fam) (P : Program) (w : World) (K : PySem.W.Frag) (mg : Str → Option Value) (base : Heap) (C : Addr) (m : Str) (k : Nat) (ps : List Str) (sp : Sp) : Prop :=
  ∃ fd, FnOk P w K mg base (CXz F P w) k (He.ma K C m) fd ps sp ∧ Meth K C m (He.ma K C m) ∧ Binds K fd ps []
section
variable {F : Fam} {P : Program} {w : World} {K : PySem.W.Frag} {mg : Str → Option Value} {base : Heap} {C : Addr} {x qual : Str} {j k : Nat} {ps : List Str} {sp : Sp}
theorem FnZ.mono (f : FnZ F P w K mg base x j ps sp) (h : j ≤ k) : FnZ F P w K mg base x k ps sp := by
  obtain ⟨fd, f, r⟩ := f
  exact ⟨fd, f.mono h, r⟩
theorem MtZ.mono (f : MtZ F P w K mg base C x j ps sp) (h : j ≤ k) : MtZ F P w K mg base C x k ps sp := by
  obtain ⟨fd, f, r⟩ := f
  exact ⟨fd, f.mono h, r⟩
theorem mkFnZ {params : Arguments} {body : List Stmt} {scope : Scope} {N : List Str}
    (D : ∃ fd, FunD K x qual params body scope [] [] (He.ga K x) fd) (g : mg x = some (.ref (He.ga K x))) (Sc : FnScope N ps scope)
    (hb : ∀ (kV doc pm : Value) (an : Option Addr) (cdv ct : Value) (us : List Value), us.length = ps.length → bindArgs (PySem.W.fnOf x qual params body scope .none kV doc pm an cdv ct) ⟨us, []⟩ = pure (ps.zip us))
    (len : ∀ vs H Q E, sp vs H Q E → vs.length = ps.length)
    (hbody : ∀ (cdv : Value) (A : Around) (outer : List Env) (s : Shared) (H : Hp) (vs : List V) (Q : VK) (E : XK), Room k (A.deeper (envOfC qual scope s.heap.objs.size (He.ga K x) cdv)) → sp vs H Q E →
      ∃ t, PSs (cxOf (CXz F P w) P w K mg base N qual scope (He.ga K x) cdv A outer s H E) body t ∧ t { nx := fun _ H' => Q .non H', rt := Q } (start N vs) H) : FnZ F P w K mg base x (k + 1) ps sp := by
  obtain ⟨fd, D⟩ := D
  exact ⟨fd, D.ok Sc len hbody, g, D.kp, D.bindsN hb⟩
theorem mkMtZ {params : Arguments} {body : List Stmt} {scope : Scope} {N : List Str}
    (D : ∃ fd, FunD K x qual params body scope [] [] (He.ma K C x) fd) (g : Meth K C x (He.ma K C x)) (Sc : FnScope N ps scope)
    (hb : ∀ (kV doc pm : Value) (an : Option Addr) (cdv ct : Value) (us : List Value), us.length = ps.length → bindArgs (PySem.W.fnOf x qual params body scope .none kV doc pm an cdv ct) ⟨us, []⟩ = pure (ps.zip us))
    (len : ∀ vs H Q E, sp vs H Q E → vs.length = ps.length)
    (hbody : ∀ (cdv : Value) (A : Around) (outer : List Env) (s : Shared) (H : Hp) (vs : List V) (Q : VK) (E : XK), Room k (A.deeper (envOfC qual scope s.heap.objs.size (He.ma K C x) cdv)) → sp vs H Q E →
      ∃ t, PSs (cxOf (CXz F P w) P w K mg base N qual scope (He.ma K C x) cdv A outer s H E) body t ∧ t { nx := fun _ H' => Q .non H', rt := Q } (start N vs) H) : MtZ F P w K mg base C x (k + 1) ps sp := by
  obtain ⟨fd, D⟩ := D
  exact ⟨fd, D.ok Sc len hbody, g, D.bindsN hb⟩
end
section
variable {F : Fam} {X : Cx} {k : Nat} {C : Addr} {ps : List Str} {sp : Sp} {E : L2.St → XK} {x m : Str} {p pos apos : Pos} {e o : Expr} {es : List Expr} {ta : TE} {t : TA}
theorem pe_fnZ (f : FnZ F X.prog X.w X.K X.mg X.base x k ps sp) (hr : Room k X.A) (hg : Gl X x) (hx : PassZ F X E) (ha : PA X (e :: es) t) (hdb : (x == ("__debug__" : Str)) = false := by decide)
    (he : starEach (e :: es) X.env = (false, eval e X.env) :: starEach es X.env := by rfl) (hpl : (backTo pos (starEach es X.env)).any (·.1) = false := by rfl) :
    PE X (.Call (.Name x p) (e :: es) [] pos) (tCallS sp E t) := by
  obtain ⟨fd, f, hm, hk, hb⟩ := f
  exact pe_callS f hr hg hm hk hb hx ha hdb he hpl
theorem pe_mtZ {pl : Sem Bool} (he : PE X o ta) (cl : Cls X.K C) (f : MtZ F X.prog X.w X.K X.mg X.base C m k ps sp) (hr : Room k X.A) (hx : PassZ F X E) (ha : PA X (e :: es) t)
    (hst : starEach (e :: es) X.env = (false, eval e X.env) :: starEach es X.env := by rfl) (hpl : (backTo pos (starEach es X.env)).any (·.1) = false := by rfl)
    (ht : eval (.Call (.Attribute o m apos) (e :: es) [] pos) X.env = (do
      let ov ← eval o X.env
      standAt apos.atName
      let (f, first) ← holding [ov] (getMethod ov m pl)
      callWith pos f first (backTo pos (starEach (e :: es) X.env)) (backToKw pos (keywordEach [] X.env))) := by rfl) :
    PE X (.Call (.Attribute o m apos) (e :: es) [] pos) (tMt C m sp E ta t) := by
  obtain ⟨fd, f, hm, hb⟩ := f
  refine ⟨fun pins s σ H Q I h => ?_⟩
  refine PySem.W.methodCall_KW (pl := pl) (thn (he.run pins s σ H _ I h) fun u s1 ⟨y, H1, I1, rx, a, dx, fs, ex, ea, l, q⟩ => ?_) ht
  subst ex
  obtain rfl : u = Value.ref a := rx
  refine getmeth_ok I1 ea cl hm l ?_
  refine PySem.W.callWith_K (first := [.ref a]) (h₀ := X.base) I.ok.mod.kin hm.kp (thn (ha.run pos pins s1 σ H1 _ I1 q) fun us s2 ⟨vs, H2, I2, r, q2⟩ => ⟨I2.kIn, ?_⟩) hst hpl
  exact run_fnS (us := .ref a :: us) (vs := .ref a :: vs) f hr hb (hx σ) I2 (.cons rfl r) q2
theorem pe_mtZ0 {pl : Sem Bool} (he : PE X o ta) (cl : Cls X.K C) (f : MtZ F X.prog X.w X.K X.mg X.base C m k ps sp) (hr : Room k X.A) (hx : PassZ F X E)
    (ht : eval (.Call (.Attribute o m apos) [] [] pos) X.env = (do
      let ov ← eval o X.env
      standAt apos.atName
      let (f, first) ← holding [ov] (getMethod ov m pl)
      callWith pos f first (backTo pos (starEach [] X.env)) (backToKw pos (keywordEach [] X.env))) := by rfl) :
    PE X (.Call (.Attribute o m apos) [] [] pos) (tMt C m sp E ta tNil) := by
  obtain ⟨fd, f, hm, hb⟩ := f
  refine ⟨fun pins s σ H Q I h => ?_⟩
  refine PySem.W.methodCall_KW (pl := pl) (thn (he.run pins s σ H _ I h) fun u s1 ⟨y, H1, I1, rx, a, dx, fs, ex, ea, l, q⟩ => ?_) ht
  subst ex
  obtain rfl : u = Value.ref a := rx
  refine getmeth_ok I1 ea cl hm l ?_
  exact PySem.W.callWith_K0 (first := [.ref a]) I1.kIn hm.kp (run_fnS (us := [.ref a]) (vs := [.ref a]) f hr hb (hx σ) I1 (.cons rfl .nil) q)
end
end U
namespace U
open PySem PySem.Spec PyProof.Rows L2 HotX L2H
/-! ### str(e) of a caught exception; str of a number in a suite -/
/-- what the class must say -/
def StrC (K : PySem.W.Frag) (C : Addr) : Prop := PySem.W.findIn K (.ref C) "__str__" = some (some (.builtin "BaseException.__str__")) ∧ PySem.W.subIn K (.ref C) (.type "BaseException") = some true
def strCB (K : PySem.W.Frag) (C : Addr) : Bool := decide (PySem.W.findIn K (.ref C) "__str__" = some (some (.builtin "BaseException.__str__"))) && decide (PySem.W.subIn K (.ref C) (.type "BaseException") = some true)
theorem strCB_ok {K : PySem.W.Frag} {C : Addr} (h : strCB K C = true) : StrC K C := by
  unfold strCB at h
  rw [Bool.and_eq_true] at h
  exact ⟨of_decide_eq_true h.1, of_decide_eq_true h.2⟩
def rStrE (K : PySem.W.Frag) (a : Addr) (cls : Value) (d : Option Addr) : List V → Hp → VK → Prop := fun xs H Q => ∃ (C t : Addr) (m : List Nat), xs = [.ref a] ∧ cls = .ref C ∧ StrC K C ∧ d = some t ∧ H t = some (.tup [.str (S m)]) ∧ Q (.str (S m)) H
theorem call_strE {X : Cx} {a : Addr} {oe : Obj} {pn : List (Addr × Obj)} {cls : Value} {d : Option Addr} (hz : famM.Z cls d oe) (hu : X.A.units + 2 < cLine) : CallR (X.suite a ((a, oe) :: pn)) (.type "str") (rStrE X.K a cls d) := by
  intro pins s σ H xs us Q I r h
  obtain ⟨C, t, m, rfl, ec, hc, ed, ht, q⟩ := h
  subst ec
  cases r with
  | cons rx rr =>
    cases rr
    cases rx
    obtain ⟨hget, _⟩ := I.pin (a, oe) (List.mem_append.mpr (.inl List.mem_cons_self))
    obtain ⟨hcl, _, vs, t', hd, h0, e'⟩ := hz
    rw [ed] at e'
    cases e'
    obtain ⟨_, its, rv, o, ho, hct, n, hdt⟩ := I.hok t _ ht
    cases rv with
    | cons ru rn =>
      cases rn
      obtain ⟨tk, rfl⟩ := ru
      have kin : PySem.W.Frag.In X.K s.heap := I.kIn
      have fin : EP (X.suite a ((a, oe) :: pn)) pins σ Q (.str (S m) tk) s := ⟨.str _, H, I, ⟨_, rfl⟩, q⟩
      exact PySem.P.str_of_C_one (prog := X.prog) (w := X.w) (A := X.A.mark (some (.ref a))) (K := X.K) (C := C) (e := a) (t0 := t) (m := S m) (tk := tk) (show (X.A.mark (some (.ref a))).units + 2 < cLine from hu) ⟨kin, oe, vs, hget, hcl, hd, h0⟩ ⟨o, n, ho, hct, hdt⟩ hc.1 hc.2 fin
def uStrS : List V → Hp → VK → Prop := fun xs H Q => (∃ i : Int, xs = [.int i] ∧ i.natAbs.log2 < 1920 ∧ Q (.str (S (num i))) H) ∨ (∃ a, xs = [.str a] ∧ Q (.str a) H)
theorem cr_uStrS {X : Cx} : CallR X (.type "str") uStrS := by
  refine CallR.or ?_ SkE.call_str_str
  intro pins s σ H xs us Q I r h
  obtain ⟨i, e, hn, q⟩ := h
  exact call_str_int pins s σ H xs us Q I r ⟨i, e, hn, by rw [num_S]; exact q⟩
theorem uStrS_i {i : Int} {H : Hp} {Q : VK} (h : i.natAbs.log2 < 1920) (q : Q (.str (S (num i))) H) : uStrS [.int i] H Q := .inl ⟨i, rfl, h, q⟩
theorem uStrS_s {a : List Nat} {H : Hp} {Q : VK} (q : Q (.str (S a)) H) : uStrS [.str (S a)] H Q := .inr ⟨_, rfl, q⟩
def uStrE (K : PySem.W.Frag) (a : Addr) (cls : Value) (d : Option Addr) : List V → Hp → VK → Prop := fun xs H Q => rStrE K a cls d xs H Q ∨ uStrS xs H Q
theorem cr_strE {X : Cx} {a : Addr} {oe : Obj} {pn : List (Addr × Obj)} {cls : Value} {d : Option Addr} (hz : famM.Z cls d oe) (hu : X.A.units + 2 < cLine) : CallR (X.suite a ((a, oe) :: pn)) (.type "str") (uStrE X.K a cls d) :=
  (call_strE hz hu).or cr_uStrS
theorem uStrE_x {K : PySem.W.Frag} {a C t : Addr} {m : List Nat} {H : Hp} {Q : VK} (hc : StrC K C) (ht : H t = some (.tup [.str (S m)])) (q : Q (.str (S m)) H) : uStrE K a (.ref C) (some t) [.ref a] H Q := .inl ⟨C, t, m, rfl, rfl, hc, rfl, ht, q⟩
end U
namespace U
open PySem PySem.Spec PyProof.Rows L2 HotX L2H
/-! ### tuples of the program's top; classes whose __init__ has defaults -/
def tupB (K : PySem.W.Frag) (a : Addr) (vs : List V) : Bool := match K.lookup a with
  | some ⟨.type "tuple", _, .seq its _, _⟩ => decide (its.size ≤ sizeLine) && He.relAll vs its.toList
  | _ => false
theorem tupB_ok {K : PySem.W.Frag} {a : Addr} {vs : List V} (h : tupB K a vs = true) (H : Hp) : SqT K H a vs := by
  unfold tupB at h
  split at h
  next its n sl q =>
    rw [Bool.and_eq_true] at h
    exact .inr ⟨_, its, n, q, rfl, rfl, of_decide_eq_true h.1, He.relAll_ok h.2⟩
  all_goals exact absurd h Bool.false_ne_true
theorem takesZ0 {G : Fam} {X : Cx} : TakesZ G X (fun _ _ _ _ => False) := fun _ _ x => by
  obtain ⟨_, _, _, _, _, _, _, _, _, _, _, _, _, _, _, _, f⟩ := x
  exact f.elim
/-- a method with the defaults dvs -/
def Fnd (P : Program) (w : World) (K : PySem.W.Frag) (mg : Str → Option Value) (base : Heap) (C : Addr) (m : Str) (k : Nat) (ps : List Str) (dvs : List V) (sp : Sp) : Prop :=
  ∃ fd, FnOk P w K mg base (L2.CX P w) k (He.ma K C m) fd ps sp ∧ Meth K C m (He.ma K C m) ∧ ∀ j, j ≤ dvs.length → ∃ ds, Vals (dvs.drop j) ds ∧ Binds K fd ps ds
section
variable {X : Cx} {k : Nat} {C : Addr} {ps : List Str} {dvs : List V} {sp : Sp} {x : Str} {p pos : Pos} {e : Expr} {es : List Expr} {t : TA}
theorem pe_mkD (j : Nat) (M : Mk X.K C (He.ma X.K C "__init__")) (F : Fnd X.prog X.w X.K X.mg X.base C "__init__" k ps dvs sp) (hj : j ≤ dvs.length) (hr : Room (k + 1) X.A) (hg : Gl X x) (hm : X.mg x = some (.ref C)) (ha : PA X (e :: es) t) (hdb : (x == ("__debug__" : Str)) = false := by decide)
    (he : starEach (e :: es) X.env = (false, eval e X.env) :: starEach es X.env := by rfl) (hpl : (backTo pos (starEach es X.env)).any (·.1) = false := by rfl) :
    PE X (.Call (.Name x p) (e :: es) [] pos) (tMake C sp (dvs.drop j) E0 t) := by
  obtain ⟨fd, F, _, hb⟩ := F
  obtain ⟨ds, hd, hb⟩ := hb j hj
  exact pe_make M F hr hg hm hb hd passL ha hdb he hpl
theorem rd_mkD {C : Addr} {sp : Sp} {E : XK} {ds : List V} {al : TA} {σ : L2.St} {H : Hp} {Q : VK} (q : al σ H fun vs H1 => ∀ x dx, H1 x = none → H1 dx = none → dx ≠ x → sp (.ref x :: (vs ++ ds)) (upd (upd H1 dx (.own x)) x (.ins C dx [])) (fun v H2 => v = .non ∧ Q (.ref x) H2) E) : tMake C sp ds E al σ H Q := q
end
end U
namespace U
open PySem PySem.Spec PyProof.Rows L2 HotX L2H
/-- C('m'), the message forgotten -/
theorem pmk_ownN {X : Cx} {C : Addr} {bmB : List Value} {B newId initId : String} {x m : Str} {j : Nat} {p p2 pos : Pos} (F : ExcBaseFacts B newId initId bmB) (q : PySem.W.excIn X.K C bmB newId = true) (gC : X.mg x = some (.ref C)) (kC : PySem.W.keepIn X.K (.ref C) = true) (r : Raises X (.ref C)) (hg : Gl X x)
    (hdb : (x == ("__debug__" : Str)) = false := by decide) : PMkZ famN X (.Call (.Name x p) [.Constant (.str m) j p2] [] pos) (fun _ H Q => Q (.ref C) none H) := by
  intro pins s σ H Q I h
  refine wpAny_Call_Name_kw (ld_glob I hg gC ?_ hdb)
  refine PySem.W.callWith_K (h₀ := X.base) I.ok.mod.kin kC (thn ((pa_cons pe_str pa_nil : PA X [.Constant (.str m) j p2] (tCons (tC (.str m)) tNil)).run pos pins s σ H (fun vs H1 => vs = [V.str m] ∧ H = H1) I ⟨rfl, rfl⟩) fun us s1 hh => ?_)
  obtain ⟨vs, H1, I1, r1, rfl, rfl⟩ := hh
  refine ⟨I1.kIn, ?_⟩
  cases r1 with
  | cons ru rn =>
    rename_i u us'
    cases rn
    show wpAny _ _ (call (.ref C) [u]) _ _ _
    obtain ⟨bm, N, nm, qn, bs, hdct, sn, sub, ab, col, dd, k0, k1, k2, k3, k5, mN, hC, hN, hni, T⟩ := exc_obj I1.kIn q
    refine wpAny_call_exc_subT F T hC hN hni (fun h' a hm => ?_) (by show 1 ≤ sizeLine; rw [sizeLine_eq]; omega)
    obtain ⟨t, ha, _, _⟩ := hm.there
    exact ⟨a, _, _, s1, H, .ref C, none, rfl, I1, hm.keeps, hm.new, ha, ⟨rfl, rfl, fun vs e => by cases e; rfl⟩, rfl, rfl, by show (4 : Nat) < 6; decide, I1.hok.gone hm.new, rfl, I1.bare, r, h⟩
end U
namespace U
open PySem PySem.Spec PyProof.Rows L2
theorem pa_0Z {F : Fam} {X : Cx} : PassZ F X (fun _ => E0) := fun σ pins H s e s' I c => by
  obtain ⟨_, _, _, _, _, _, _, _, _, _, _, _, f⟩ := c
  exact False.elim f
end U
namespace U
open PySem PySem.Spec PyProof.Rows L2
section
variable {prog : Program} {w : World} {A : Around} {E : Value → Shared → Prop} {s : Shared}
/-! ### a zip of two tuples whose last pair is still out -/
theorem zipT_item_held {z TI TO T i1 i2 l1 l2 : Addr} {f : Bool} {oT : Obj} {k1 k2 : Nat} {xs ys : Array Value} {x y : Value} {Q : Value → Shared → Prop} (D : ZipApart z TI TO i1 i2 l1 l2)
    (hz : IsZipHeld s.heap z TI TO T f) (hT : s.heap.get? T = some oT) (hTI : IsPair s.heap TI (.ref i1) (.ref i2))
    (h1 : s.heap.IsTupleIter i1 l1 k1) (h2 : s.heap.IsTupleIter i2 l2 k2) (hl1 : s.heap.IsTuple l1 xs) (hl2 : s.heap.IsTuple l2 ys) (hx : xs[k1]? = some x) (hy : ys[k2]? = some y)
    (hQ : ∀ h', IsZipHeld h' z TI TO T true → h'.IsTupleIter i1 l1 (k1 + 1) → h'.IsTupleIter i2 l2 (k2 + 1) → IsPair h' s.heap.objs.size x y → h'.objs.size = s.heap.objs.size + 1 →
      (∀ c o, c ≠ z → c ≠ i1 → c ≠ i2 → s.heap.get? c = some o → h'.get? c = some o) → Q (.ref s.heap.objs.size) { s with heap := h' }) :
    wpAny (model prog w) A (Builtin.«zip.__next__» ⟨[.ref z], []⟩) (fun fin s' => ∃ v, fin = .done (.ret v) ∧ Q v s') E s := by
  show wpAny _ _ (field (.ref z) 2 >>= _) _ _ _
  refine wpAny_bind (wpAny_field hz rfl (x := .bool false) rfl ?_)
  show wpAny _ _ (field (.ref z) 3 >>= _) _ _ _
  refine wpAny_bind (wpAny_field hz rfl (x := .ref TI) rfl ?_)
  refine wpAny_bind (wpAny_seqItems hTI rfl ?_)
  show wpAny _ _ (Builtin.SmallTypes.ownedTupleIsFree (.ref z) >>= _) _ _ _
  refine wpAny_bind (wpAny_tupleHeld_zip hz hT fun h₁ hz₁ hs₁ => ?_)
  simp only [Bool.false_eq_true, if_false]
  refine wpAny_bind ?_
  rw [← Array.forIn_toList]
  simp only [List.forIn_cons, List.forIn_nil]
  refine wpAny_bind (wpAny_bind (wpAny_holding ?_))
  show wpAny _ _ (Builtin.SmallTypes.nextOf (.ref i1) >>= _) _ _ _
  refine wpAny_bind (RZ.nextOf_tuple_item (s := { s with heap := h₁ }) (h1.extBut hs₁.extBut D.i1z) (hl1.extBut hs₁.extBut D.l1z) hx fun h₂ h1₂ hs₂ => wpAny_pure ?_)
  refine wpAny_pure ?_
  refine wpAny_bind (wpAny_bind (wpAny_holding ?_))
  show wpAny _ _ (Builtin.SmallTypes.nextOf (.ref i2) >>= _) _ _ _
  refine wpAny_bind (RZ.nextOf_tuple_item (s := { s with heap := h₂ }) ((h2.extBut hs₁.extBut D.i2z).extBut hs₂.extBut D.i12.symm) ((hl2.extBut hs₁.extBut D.l2z).extBut hs₂.extBut D.l2i1) hy fun h₃ h2₃ hs₃ => wpAny_pure ?_)
  refine wpAny_pure (wpAny_pure ?_)
  show wpAny _ _ (newTuple [x, y] >>= _) _ _ _
  refine wpAny_bind (wpAny_newTuple ?_)
  have hsz : h₃.objs.size = s.heap.objs.size := by rw [hs₃.1, hs₂.1, hs₁.1]
  have hz₃ : IsZipHeld h₃ z TI TO T true := hs₃.extBut _ _ D.i2z.symm (hs₂.extBut _ _ D.i1z.symm hz₁)
  have hk : ∀ c o, c ≠ z → c ≠ i1 → c ≠ i2 → s.heap.get? c = some o → h₃.get? c = some o := fun c o c1 c2 c3 e => hs₃.extBut _ _ c3 (hs₂.extBut _ _ c2 (hs₁.extBut _ _ c1 e))
  have h1₃ : h₃.IsTupleIter i1 l1 (k1 + 1) := h1₂.extBut hs₃.extBut D.i12
  refine wpAny_pure ⟨_, rfl, ?_⟩
  show Q (.ref h₃.objs.size) _
  have hp : IsPair (h₃.push { cls := .type "tuple", data := .seq #[x, y] }) h₃.objs.size x y := Heap.get?_push_size _ rfl
  have hz4 : (h₃.push { cls := .type "tuple", data := .seq #[x, y] }).objs.size = h₃.objs.size + 1 := Heap.size_push ..
  rw [hsz] at hp hz4 ⊢
  exact hQ _ (Heap.get?_push_of_some _ hz₃) (h1₃.at fun o e => Heap.get?_push_of_some _ e) (h2₃.at fun o e => Heap.get?_push_of_some _ e) hp hz4 fun c o c1 c2 c3 e => Heap.get?_push_of_some _ (hk c o c1 c2 c3 e)
theorem zipT_end_held {z TI TO T i1 i2 l1 l2 : Addr} {f : Bool} {oT : Obj} {k1 k2 : Nat} {xs ys : Array Value} {Q : Fin → Shared → Prop} (hh : A.handled = none) (D : ZipApart z TI TO i1 i2 l1 l2)
    (hz : IsZipHeld s.heap z TI TO T f) (hT : s.heap.get? T = some oT) (hTI : IsPair s.heap TI (.ref i1) (.ref i2))
    (h1 : s.heap.IsTupleIter i1 l1 k1) (hl1 : s.heap.IsTuple l1 xs) (hend : xs[k1]? = none)
    (hE : ∀ h' e, (∀ c o, c ≠ z → c ≠ i1 → s.heap.get? c = some o → h'.get? c = some o) → (∃ o, h'.get? e = some o ∧ o.cls = .type "StopIteration") → E (.ref e) { s with heap := h' }) :
    wpAny (model prog w) A (Builtin.«zip.__next__» ⟨[.ref z], []⟩) Q E s := by
  show wpAny _ _ (field (.ref z) 2 >>= _) _ _ _
  refine wpAny_bind (wpAny_field hz rfl (x := .bool false) rfl ?_)
  show wpAny _ _ (field (.ref z) 3 >>= _) _ _ _
  refine wpAny_bind (wpAny_field hz rfl (x := .ref TI) rfl ?_)
  refine wpAny_bind (wpAny_seqItems hTI rfl ?_)
  show wpAny _ _ (Builtin.SmallTypes.ownedTupleIsFree (.ref z) >>= _) _ _ _
  refine wpAny_bind (wpAny_tupleHeld_zip hz hT fun h₁ hz₁ hs₁ => ?_)
  simp only [Bool.false_eq_true, if_false]
  refine wpAny_bind ?_
  rw [← Array.forIn_toList]
  simp only [List.forIn_cons, List.forIn_nil]
  refine wpAny_bind (wpAny_bind (wpAny_holding ?_))
  show wpAny _ _ (Builtin.SmallTypes.nextOf (.ref i1) >>= _) _ _ _
  refine wpAny_bind (RZ.nextOf_tuple_end (s := { s with heap := h₁ }) hh (h1.extBut hs₁.extBut D.i1z) (hl1.extBut hs₁.extBut D.l1z) hend fun h₂ e hs₂ he => ?_)
  exact hE h₂ e (fun c o c1 c2 x => hs₂ _ _ c2 (hs₁.extBut _ _ c1 x)) he
theorem next_zipT_item_held {z TI TO T i1 i2 l1 l2 : Addr} {f : Bool} {oT : Obj} {k1 k2 : Nat} {xs ys : Array Value} {x y : Value} {Q : Option Value → Shared → Prop} (D : ZipApart z TI TO i1 i2 l1 l2)
    (hz : IsZipHeld s.heap z TI TO T f) (hT : s.heap.get? T = some oT) (hTI : IsPair s.heap TI (.ref i1) (.ref i2))
    (h1 : s.heap.IsTupleIter i1 l1 k1) (h2 : s.heap.IsTupleIter i2 l2 k2) (hl1 : s.heap.IsTuple l1 xs) (hl2 : s.heap.IsTuple l2 ys) (hx : xs[k1]? = some x) (hy : ys[k2]? = some y)
    (hQ : ∀ h', IsZipHeld h' z TI TO T true → h'.IsTupleIter i1 l1 (k1 + 1) → h'.IsTupleIter i2 l2 (k2 + 1) → IsPair h' s.heap.objs.size x y → h'.objs.size = s.heap.objs.size + 1 →
      (∀ c o, c ≠ z → c ≠ i1 → c ≠ i2 → s.heap.get? c = some o → h'.get? c = some o) → Q (some (.ref s.heap.objs.size)) { s with heap := h' }) :
    wpAny (model prog w) A (pyNext (.ref z)) Q E s := by
  have hTy : s.TypeIs (.ref z) "zip" := ⟨_, hz, rfl⟩
  unfold pyNext
  exact wpAny_bind (wpAny_attempt (wpAny_callSpecial?_slot (name := Str.ofString "__next__") hTy PySem.F.slot_zip_next
    (wpAny_call_entry PySem.F.slot_zip_next hTy PySem.F.entry_zip_next
      (zipT_item_held D hz hT hTI h1 h2 hl1 hl2 hx hy fun h' a1 a3 a4 a5 a6 a7 => wpAny_pure (hQ h' a1 a3 a4 a5 a6 a7)) (PySem.F.args_zip_next_1 _))))
theorem next_zipT_end_held {z TI TO T i1 i2 l1 l2 : Addr} {f : Bool} {oT : Obj} {k1 k2 : Nat} {xs ys : Array Value} {Q : Option Value → Shared → Prop} (hh : A.handled = none) (D : ZipApart z TI TO i1 i2 l1 l2)
    (hz : IsZipHeld s.heap z TI TO T f) (hT : s.heap.get? T = some oT) (hTI : IsPair s.heap TI (.ref i1) (.ref i2))
    (h1 : s.heap.IsTupleIter i1 l1 k1) (hl1 : s.heap.IsTuple l1 xs) (hend : xs[k1]? = none)
    (hQ : ∀ h', (∀ c o, c ≠ z → c ≠ i1 → s.heap.get? c = some o → h'.get? c = some o) → Q none { s with heap := h' }) : wpAny (model prog w) A (pyNext (.ref z)) Q E s := by
  have hTy : s.TypeIs (.ref z) "zip" := ⟨_, hz, rfl⟩
  unfold pyNext
  refine wpAny_bind (wpAny_attempt (wpAny_callSpecial?_slot (name := Str.ofString "__next__") hTy PySem.F.slot_zip_next
    (wpAny_call_entry PySem.F.slot_zip_next hTy PySem.F.entry_zip_next (zipT_end_held (k2 := k2) (ys := ys) hh D hz hT hTI h1 hl1 hend fun h' e hk he => ?_) (PySem.F.args_zip_next_1 _))))
  obtain ⟨o, ho, hc⟩ := he
  refine wpAny_bind (wpAny_isInstance (T := "StopIteration") (b := true) ⟨o, ho, hc⟩ isSubtype_stop ?_)
  exact wpAny_pure (hQ _ hk)
end
end U
namespace U
open PySem PySem.Spec PyProof.Rows L2
def ZS (h : Heap) (z TI TO i1 i2 a b : Addr) (i : Nat) : Prop :=
  IsPair h TI (.ref i1) (.ref i2) ∧ h.IsTupleIter i1 a i ∧ h.IsTupleIter i2 b i ∧ ((IsZip h z TI TO .none ∧ ∃ x y, IsPair h TO x y) ∨ ∃ T f oT oO, IsZipHeld h z TI TO T f ∧ h.get? T = some oT ∧ h.get? TO = some oO)
section
variable {prog : Program} {w : World} {A : Around} {E : Value → Shared → Prop} {s : Shared} {z TI TO i1 i2 a b : Addr}
theorem ZS.keep {h h' : Heap} {i : Nat} (st : ZS h z TI TO i1 i2 a b i) (k : ∀ c, c ∈ [z, TI, TO, i1, i2] → ∀ o, h.get? c = some o → h'.get? c = some o) (ex : ∀ c o, h.get? c = some o → ∃ o', h'.get? c = some o') : ZS h' z TI TO i1 i2 a b i := by
  obtain ⟨hTI, h1, h2, hz⟩ := st
  refine ⟨k TI (by simp) _ hTI, h1.at fun o q => k i1 (by simp) o q, h2.at fun o q => k i2 (by simp) o q, ?_⟩
  rcases hz with ⟨hz, x, y, hTO⟩ | ⟨T, f, oT, oO, hz, hT, hO⟩
  · exact .inl ⟨k z (by simp) _ hz, x, y, k TO (by simp) _ hTO⟩
  · obtain ⟨o', q⟩ := ex T oT hT
    exact .inr ⟨T, f, o', oO, k z (by simp) _ hz, q, k TO (by simp) _ hO⟩
theorem zs_item {i : Nat} {xs ys : Array Value} {x y : Value} {Q : Option Value → Shared → Prop} (D : ZipApart z TI TO i1 i2 a b) (st : ZS s.heap z TI TO i1 i2 a b i) (hl1 : s.heap.IsTuple a xs) (hl2 : s.heap.IsTuple b ys) (hx : xs[i]? = some x) (hy : ys[i]? = some y)
    (hQ : ∀ h', ZS h' z TI TO i1 i2 a b (i + 1) → IsPair h' s.heap.objs.size x y → (∀ c o, c ∉ [z, TI, TO, i1, i2] → s.heap.get? c = some o → h'.get? c = some o) → Q (some (.ref s.heap.objs.size)) { s with heap := h' }) :
    wpAny (model prog w) A (pyNext (.ref z)) Q E s := by
  obtain ⟨hTI, h1, h2, hz⟩ := st
  rcases hz with ⟨hz, u, v, hTO⟩ | ⟨T, f, oT, oO, hz, hT, hO⟩
  · refine RZ.pyNext_zipT_item D hz hTI hTO h1 h2 hl1 hl2 hx hy fun h' a1 a2 a3 a4 a5 a6 a7 => hQ h' ⟨a7 _ _ D.TIz D.TITO D.TIi1 D.TIi2 hTI, a3, a4, .inr ⟨_, false, _, _, a1, a5, a2⟩⟩ a5 fun c o hc e => ?_
    simp only [List.mem_cons, List.not_mem_nil, or_false, not_or] at hc
    exact a7 c o hc.1 hc.2.2.1 hc.2.2.2.1 hc.2.2.2.2 e
  · refine next_zipT_item_held D hz hT hTI h1 h2 hl1 hl2 hx hy fun h' a1 a3 a4 a5 a6 a7 => hQ h' ⟨a7 _ _ D.TIz D.TIi1 D.TIi2 hTI, a3, a4, ?_⟩ a5 fun c o hc e => ?_
    · have hT' : ∃ o', h'.get? T = some o' := by
        by_cases c1 : T = z
        · exact ⟨_, by rw [c1]; exact a1⟩
        · by_cases c2 : T = i1
          · obtain ⟨o', q, _⟩ := a3
            exact ⟨o', by rw [c2]; exact q⟩
          · by_cases c3 : T = i2
            · obtain ⟨o', q, _⟩ := a4
              exact ⟨o', by rw [c3]; exact q⟩
            · exact ⟨_, a7 _ _ c1 c2 c3 hT⟩
      obtain ⟨o', q⟩ := hT'
      exact .inr ⟨T, true, o', oO, a1, q, a7 _ _ D.TOz D.TOi1 D.TOi2 hO⟩
    · simp only [List.mem_cons, List.not_mem_nil, or_false, not_or] at hc
      exact a7 c o hc.1 hc.2.2.2.1 hc.2.2.2.2 e
theorem zs_end {i : Nat} {xs ys : Array Value} {Q : Option Value → Shared → Prop} (hh : A.handled = none) (D : ZipApart z TI TO i1 i2 a b) (st : ZS s.heap z TI TO i1 i2 a b i) (hl1 : s.heap.IsTuple a xs) (hl2 : s.heap.IsTuple b ys) (hx : xs[i]? = none)
    (hQ : ∀ h', (∀ c o, c ∉ [z, TI, TO, i1, i2] → s.heap.get? c = some o → h'.get? c = some o) → Q none { s with heap := h' }) : wpAny (model prog w) A (pyNext (.ref z)) Q E s := by
  obtain ⟨hTI, h1, h2, hz⟩ := st
  rcases hz with ⟨hz, u, v, hTO⟩ | ⟨T, f, oT, oO, hz, hT, hO⟩
  · refine RZ.pyNext_zipT_end hh D hz hTI hTO h1 h2 hl1 hl2 (.inl hx) fun h' a7 => hQ h' fun c o hc e => ?_
    simp only [List.mem_cons, List.not_mem_nil, or_false, not_or] at hc
    exact a7 c o hc.1 hc.2.2.1 hc.2.2.2.1 hc.2.2.2.2 e
  · refine next_zipT_end_held (k2 := i) (ys := ys) hh D hz hT hTI h1 hl1 hx fun h' a7 => hQ h' fun c o hc e => ?_
    simp only [List.mem_cons, List.not_mem_nil, or_false, not_or] at hc
    exact a7 c o hc.1 hc.2.2.2.1 e
end
end U
namespace U
open PySem PySem.Spec PyProof.Rows L2
/-- the pairs made so far, in the list at q -/
structure ZD (H0 H : Hp) (q : Addr) (ts : List Addr) (xs ys : List V) (i : Nat) : Prop where
  l : H q = some (.lst (ts.map V.ref))
  n : ts.length = i
  same : Same H0 H
  nq : H0 q = none
  at_ : ∀ j x y, j < i → xs[j]? = some x → ys[j]? = some y → ∃ t, ts[j]? = some t ∧ H t = some (.tup [x, y])
theorem sqT_put {K : PySem.W.Frag} {H : Hp} {q : Addr} {l : List V} {o : HO} (h : H q = some (.lst l)) {c : Addr} {vs : List V} (e : SqT K H c vs) : SqT K (upd H q o) c vs := by
  rcases e with (e | ⟨o', e⟩) | e
  · refine .inl (.inl ?_)
    rw [upd_ne (fun z => by rw [z, h] at e; cases e)]
    exact e
  · refine .inl (.inr ⟨o', ?_⟩)
    rw [upd_ne (fun z => by rw [z, h] at e; cases e)]
    exact e
  · exact .inr e
section
variable {X : Cx} {pins : List (Addr × Obj)} {σ : L2.St} {A1 : Around} {z TI TO i1 i2 a b q : Addr} {xs ys : List V} {H0 : Hp} {Rs : Result → Shared → Prop}
theorem zl_loop (hh : A1.in1.handled = none) (D : ZipApart z TI TO i1 i2 a b) (hl : xs.length = ys.length) (hz : xs.length ≤ sizeLine)
    (hdone : ∀ H s ts, Inv X pins σ H s → ZD H0 H q ts xs ys xs.length → Rs (.ok (.ret .none)) s) :
    ∀ (k i : Nat) (H : Hp) (s : Shared) (ts : List Addr), xs.length - i = k → i ≤ xs.length → Inv X pins σ H s → ZS s.heap z TI TO i1 i2 a b i → (∀ c ∈ [z, TI, TO, i1, i2], FpOk X pins H c) → SqT X.K H a xs → SqT X.K H b ys → ZD H0 H q ts xs ys i →
      codeAny (model X.prog X.w) A1 (.builtin "list.extend.loop" ⟨[.ref q, .ref z, .none], []⟩) Rs s := by
  intro k
  induction k with
  | zero =>
    intro i H s ts hk hi I st hf ha hb d
    have e : i = xs.length := by omega
    subst e
    refine codeAny_builtin PySem.F.entry_extend_loop ?_
    rw [Around.under_plainId PySem.F.plain_extend_loop _]
    show wpAny _ A1.in1 (pyNext (.ref z) >>= _) _ _ s
    obtain ⟨its, rv, p, _⟩ := I.tuple ha
    obtain ⟨its2, rv2, p2, _⟩ := I.tuple hb
    have l1 := rv.length
    refine wpAny_bind (zs_end hh D st (show s.heap.IsTuple a its.toArray from p) (show s.heap.IsTuple b its2.toArray from p2) (by simp; omega) fun h' hk => ?_)
    exact wpAny_pure (hdone H _ ts (I.turnedL (t' := s.toks) (ch := [z, TI, TO, i1, i2]) (fun c o hc e => hk c o hc e) hf) d)
  | succ k ih =>
    intro i H s ts hk hi I st hf ha hb d
    have hlt : i < xs.length := by omega
    have hx : xs[i]? = some xs[i] := List.getElem?_eq_getElem hlt
    have hlt2 : i < ys.length := by omega
    have hy : ys[i]? = some ys[i] := List.getElem?_eq_getElem hlt2
    refine codeAny_builtin PySem.F.entry_extend_loop ?_
    rw [Around.under_plainId PySem.F.plain_extend_loop _]
    show wpAny _ A1.in1 (pyNext (.ref z) >>= _) _ _ s
    obtain ⟨its, rv, p, _⟩ := I.tuple ha
    obtain ⟨its2, rv2, p2, _⟩ := I.tuple hb
    obtain ⟨u, hu, ru⟩ := rv.get hx
    obtain ⟨u2, hu2, ru2⟩ := rv2.get hy
    refine wpAny_bind (zs_item D st (show s.heap.IsTuple a its.toArray from p) (show s.heap.IsTuple b its2.toArray from p2) (x := u) (y := u2) (by simpa using hu) (by simpa using hu2) fun h' st' hT hk => ?_)
    have fT : H s.heap.objs.size = none := I.hok.fresh (Nat.le_refl _)
    have new : ObjOk X.prog X.w (upd H s.heap.objs.size (.tup [xs[i], ys[i]])) h' s.heap.objs.size (.tup [xs[i], ys[i]]) :=
      ⟨by show 2 ≤ sizeLine; decide, [u, u2], .cons ru (.cons ru2 .nil), ⟨_, hT, rfl, _, rfl⟩⟩
    have I1 : Inv X pins σ (upd H s.heap.objs.size (.tup [xs[i], ys[i]])) { s with heap := h' } :=
      I.turnedNew (t' := s.toks) (ch := [z, TI, TO, i1, i2]) (fun c o hc e => hk c o hc e) hf (Nat.le_refl _) new
    have hlt' : ∀ c ∈ [z, TI, TO, i1, i2], c < s.heap.objs.size := fun c hc => by
      obtain ⟨hTI, h1, h2, hz⟩ := st
      have zz : ∃ o, s.heap.get? z = some o := by
        rcases hz with ⟨hz, _⟩ | ⟨_, _, _, _, hz, _⟩ <;> exact ⟨_, hz⟩
      have oo : ∃ o, s.heap.get? TO = some o := by
        rcases hz with ⟨_, _, _, hO⟩ | ⟨_, _, _, _, _, _, hO⟩ <;> exact ⟨_, hO⟩
      simp only [List.mem_cons, List.not_mem_nil, or_false] at hc
      rcases hc with e | e | e | e | e
      · obtain ⟨o, e2⟩ := zz; rw [e]; exact Heap.lt_size e2
      · rw [e]; exact Heap.lt_size hTI
      · obtain ⟨o, e2⟩ := oo; rw [e]; exact Heap.lt_size e2
      · obtain ⟨_, e2, _⟩ := h1; rw [e]; exact Heap.lt_size e2
      · obtain ⟨_, e2, _⟩ := h2; rw [e]; exact Heap.lt_size e2
    have hq1 : upd H s.heap.objs.size (.tup [xs[i], ys[i]]) q = some (.lst (ts.map V.ref)) := by rw [upd_ne (ne_of_none d.l fT)]; exact d.l
    show wpAny _ A1.in1 (updateSeq q (·.push (.ref s.heap.objs.size)) >>= _) _ _ _
    obtain ⟨zz, itsq, nq, r2, hlq, e⟩ := I1.lstM hq1
    have htl : (ts.map V.ref).length = i := by rw [List.length_map]; exact d.n
    refine wpAny_bind (wpAny_updateSeq e rfl (wpAny_pure ⟨plainId_quiet PySem.F.plain_extend_loop _, ?_⟩) (by rw [List.size_toArray]; omega) (by show (itsq.toArray.push _).size ≤ sizeLine + 1; rw [Array.size_push, List.size_toArray]; omega))
    have I2 := I1.lset (f := (·.push (Value.ref s.heap.objs.size))) (its' := itsq ++ [Value.ref s.heap.objs.size]) (ys := ts.map V.ref ++ [V.ref s.heap.objs.size]) (t' := s.toks) hq1 e (by simp) (r2.append (show Vals [V.ref s.heap.objs.size] [Value.ref s.heap.objs.size] from .cons rfl .nil)) (by rw [List.length_append, List.length_singleton]; omega)
    have qne : ∀ c ∈ [z, TI, TO, i1, i2], c ≠ q := fun c hc ec => by
      have := (hf c hc).1
      rw [ec, d.l] at this
      cases this
    have k2 : KeepT H (upd (upd H s.heap.objs.size (.tup [xs[i], ys[i]])) q (.lst (ts.map V.ref ++ [.ref s.heap.objs.size]))) := (KeepT.new fT).trans (KeepT.lst hq1)
    have same2 : Same H0 (upd (upd H s.heap.objs.size (.tup [xs[i], ys[i]])) q (.lst (ts.map V.ref ++ [.ref s.heap.objs.size]))) := Same.put (d.same.trans (Same.new fT)) d.nq
    have sq : ∀ {c : Addr} {vs : List V}, SqT X.K H c vs → SqT X.K (upd (upd H s.heap.objs.size (.tup [xs[i], ys[i]])) q (.lst (ts.map V.ref ++ [.ref s.heap.objs.size]))) c vs := fun {c vs} h => sqT_put hq1 (SqT.keep (Same.new (o := .tup [xs[i], ys[i]]) fT) h)
    refine ih (i + 1) _ _ (ts ++ [s.heap.objs.size]) (by omega) hlt I2 (st'.keep (fun c hc o e2 => (Heap.get?_update_other _ _ (Ne.symm (qne c hc))).trans e2) fun c o e2 => ?_) (fun c hc => ?_) (sq ha) (sq hb) ⟨?_, ?_, same2, d.nq, fun j x y hj hxj hyj => ?_⟩
    · by_cases ec : c = q
      · subst ec
        exact ⟨_, Heap.get?_update_self _ e rfl⟩
      · exact ⟨o, (Heap.get?_update_other _ _ (Ne.symm ec)).trans e2⟩
    · obtain ⟨f1, f2⟩ := hf c hc
      refine ⟨?_, f2⟩
      rw [upd_ne (qne c hc), upd_ne (Nat.ne_of_lt (hlt' c hc))]
      exact f1
    · rw [upd_same, List.map_append]; rfl
    · rw [List.length_append, List.length_singleton, d.n]
    · by_cases hji : j = i
      · subst hji
        rw [hx] at hxj
        rw [hy] at hyj
        cases hxj
        cases hyj
        refine ⟨s.heap.objs.size, by rw [List.getElem?_append_right (Nat.le_of_eq d.n), d.n, Nat.sub_self]; rfl, ?_⟩
        have ne : s.heap.objs.size ≠ q := fun z => by
          have := d.l
          rw [← z, fT] at this
          cases this
        rw [upd_ne ne, upd_same]
      · obtain ⟨t, h1, h2⟩ := d.at_ j x y (by omega) hxj hyj
        exact ⟨t, by rw [List.getElem?_append_left (by rw [d.n]; omega)]; exact h1, k2 _ _ h2⟩
end
end U
namespace U
open PySem PySem.Spec PyProof.Rows L2
theorem zip_no_len : typeLookup (.type "zip") "__len__" = pure none := am_miss_of_fast (by decide +kernel)
theorem zip_no_hint : typeLookup (.type "zip") "__length_hint__" = pure none := am_miss_of_fast (by decide +kernel)
section
variable {X : Cx} {pins : List (Addr × Obj)} {σ : L2.St} {A1 : Around} {z TI TO i1 i2 a b q : Addr} {xs ys : List V} {H0 H : Hp} {Rs : Result → Shared → Prop} {s : Shared}
theorem ZS.hz {h : Heap} {i : Nat} (st : ZS h z TI TO i1 i2 a b i) : ∃ o, h.get? z = some o ∧ o.cls = .type "zip" := by
  obtain ⟨hTI, h1, h2, hz⟩ := st
  rcases hz with ⟨hz, _⟩ | ⟨_, _, _, _, hz, _⟩
  · exact ⟨_, hz, rfl⟩
  · exact ⟨_, hz, rfl⟩
theorem ZS.iter {M : Model} {A : Around} {E : Value → Shared → Prop} {Q : Value → Shared → Prop} {i : Nat} {xn yn : V} (st : IsZip s.heap z TI TO .none) (h : Q (.ref z) s) : wpAny (model X.prog X.w) A (pyIter (.ref z)) Q E s :=
  wpAny_pyIter_zip st h
theorem zl_extend (hh : A1.in1.handled = none) (D : ZipApart z TI TO i1 i2 a b) (hl : xs.length = ys.length) (hz : xs.length ≤ sizeLine)
    (hdone : ∀ H s ts, Inv X pins σ H s → ZD H0 H q ts xs ys xs.length → Rs (.ok (.ret .none)) s)
    (I : Inv X pins σ H s) (st : IsZip s.heap z TI TO .none) (st2 : ZS s.heap z TI TO i1 i2 a b 0) (hf : ∀ c ∈ [z, TI, TO, i1, i2], FpOk X pins H c) (ha : SqT X.K H a xs) (hb : SqT X.K H b ys) (hq : H q = some (.lst [])) (sm : Same H0 H) (nq : H0 q = none) :
    wpAny (model X.prog X.w) A1.in1 (Builtin.List.listExtendWith (.ref q) (.ref z) .none)
      (fun fin s' => match fin with | .done f => Rs (.ok f) s' | .again c' => c'.quiet = true ∧ codeAny (model X.prog X.w) A1 c' Rs s') (fun e s' => Rs (.error e) s') s := by
  have hne : q ≠ z := fun e => by
    have := (hf z (by simp)).1
    rw [← e, hq] at this
    cases this
  obtain ⟨oz, ez, cz⟩ := st2.hz
  have hTy : s.TypeIs (.ref z) "zip" := ⟨oz, ez, cz⟩
  unfold Builtin.List.listExtendWith
  refine wpAny_bind (wpAny_typeOf hTy ?_)
  have h1 : Builtin.List.listSameRef (.ref q) (.ref z) = false := by simp [Builtin.List.listSameRef, hne]
  have h2 : (Value.type "zip" == Value.type "list") = false := by decide
  have h3 : (Value.type "zip" == Value.type "tuple") = false := by decide
  simp only [h1, h2, h3, Bool.or_false, Bool.false_eq_true, if_false]
  refine wpAny_bind (wpAny_pyIter_zip st ?_)
  refine wpAny_bind (wpAny_holding ?_)
  unfold Builtin.List.listLengthHint
  refine wpAny_bind (wpAny_specialOf hTy zip_no_len ?_)
  show wpAny _ A1.in1 (specialOf (Value.ref z) (Str.ofString "__length_hint__") >>= _) _ _ _
  refine wpAny_bind (wpAny_specialOf hTy zip_no_hint ?_)
  refine wpAny_pure ?_
  show wpAny _ A1.in1 (rule "list.extend.makes-room" >>= fun _ => Builtin.List.listTouch (.ref q) >>= fun _ => again (.builtin "list.extend.loop" ⟨[.ref q, .ref z, .none], []⟩)) _ _ _
  obtain ⟨zz, its, k, r3, hl3, e3⟩ := I.lstM hq
  cases r3
  refine wpAny_bind (wpAny_rule ?_)
  refine wpAny_bind ?_
  show wpAny _ _ (updateSeq q (·.push .none) >>= fun _ => updateSeq q (·.pop)) _ _ _
  refine wpAny_bind (wpAny_updateSeq e3 rfl ?_)
  have I2 := I.lset (f := (·.push Value.none)) (its' := [Value.none]) (ys := [.non]) (t' := s.toks) hq e3 (by simp) (.cons rfl .nil) (by rw [List.length_singleton, sizeLine_eq]; decide)
  obtain ⟨z4, its4, k4, r4, hl4, e4⟩ := I2.lstM upd_same
  obtain ⟨u4, rfl, ru4⟩ := r4.one
  refine wpAny_updateSeq e4 rfl ?_ (by show 1 ≤ sizeLine; rw [sizeLine_eq]; decide) (by show 0 ≤ sizeLine + 1; exact Nat.zero_le _)
  have I3 := I2.lset (f := (·.pop)) (its := [u4]) (its' := []) (ys := []) (t' := s.toks) upd_same e4 (by rfl) .nil (Nat.zero_le _)
  rw [upd_upd] at I3
  have hH : upd H q (.lst []) = H := by
    funext b
    by_cases hb : b = q
    · rw [hb, upd_same, hq]
    · rw [upd_ne hb]
  rw [hH] at I3
  have qne : ∀ c ∈ [z, TI, TO, i1, i2], c ≠ q := fun c hc ec => by
    have := (hf c hc).1
    rw [ec, hq] at this
    cases this
  refine wpAny_pure ⟨plainId_quiet PySem.F.plain_extend_loop _, zl_loop hh D hl hz hdone _ 0 H _ [] rfl (Nat.zero_le _) I3 (st2.keep (fun c hc o e2 => (Heap.get?_update_other _ _ (Ne.symm (qne c hc))).trans ((Heap.get?_update_other _ _ (Ne.symm (qne c hc))).trans e2)) fun c o e2 => ?_) hf ha hb ⟨hq, rfl, sm, nq, fun j x y hj _ _ => absurd hj (Nat.not_lt_zero _)⟩⟩
  by_cases ec : c = q
  · subst ec
    exact ⟨_, Heap.get?_update_self _ e4 rfl⟩
  · exact ⟨o, (Heap.get?_update_other _ _ (Ne.symm ec)).trans ((Heap.get?_update_other _ _ (Ne.symm ec)).trans e2)⟩
end
section
variable {X : Cx}
def tLZ (K : PySem.W.Frag) (ta : TA) : TE := fun σ H Q => ta σ H fun vs H1 => ∃ a b xs ys, vs = [.ref a, .ref b] ∧ SqT K H1 a xs ∧ SqT K H1 b ys ∧ xs.length = ys.length ∧ xs.length ≤ sizeLine ∧ ∀ H' q ts, ZD H1 H' q ts xs ys xs.length → Q (.ref q) H'
theorem pe_listZip {e e2 : Expr} {ta : TA} {p p2 pos pos2 : Pos} (hg2 : Gl X "list") (hm2 : X.mg "list" = none) (hg : Gl X "zip") (hm : X.mg "zip" = none) (ha : PA X [e, e2] ta) (hc : X.calm = true := by rfl)
    (hs : starEach [e, e2] X.env = (false, eval e X.env) :: starEach [e2] X.env := by rfl) (hpl : (backTo pos (starEach [e2] X.env)).any (·.1) = false := by rfl)
    (na : starEach [.Call (.Name "zip" p) [e, e2] [] pos] X.env = (false, eval (.Call (.Name "zip" p) [e, e2] [] pos) X.env) :: starEach [] X.env := by rfl) :
    PE X (.Call (.Name "list" p2) [.Call (.Name "zip" p) [e, e2] [] pos] [] pos2) (tLZ X.K ta) := by
  refine ⟨fun pins s σ H Q I h => ?_⟩
  refine Call_ (ld_blt I hg2 hm2 boot_list ?_)
  refine PyProof.Rows.callWith_type1 (PyProof.Rows.args_cons ?_ na) na rfl
  refine Call_ (ld_blt I hg hm PyProof.Rows.boot_zip (PyProof.Rows.callWith_type1 (thn (ha.run pos pins s σ H _ I h) fun us s1 ⟨vs, H1, I1, r1, q1⟩ => ?_) hs hpl))
  obtain ⟨a, b, xs, ys, ex, hqx, hqy, hl, hz0, q1⟩ := q1
  subst ex
  cases r1 with
  | cons r rr =>
    cases rr with
    | cons r' rr =>
      cases rr
      cases r
      cases r'
      have fresh5 : ∀ c, c ∈ [s1.heap.objs.size + 4, s1.heap.objs.size + 2, s1.heap.objs.size + 3, s1.heap.objs.size, s1.heap.objs.size + 1] → FpOk X pins H1 c := fun c hcm => by
        have e' : c = s1.heap.objs.size + 4 ∨ c = s1.heap.objs.size + 2 ∨ c = s1.heap.objs.size + 3 ∨ c = s1.heap.objs.size ∨ c = s1.heap.objs.size + 1 := by simpa using hcm
        have hle : s1.heap.objs.size ≤ c := by
          rcases e' with z | z | z | z | z
          · rw [z]; exact Nat.le_add_right _ _
          · rw [z]; exact Nat.le_add_right _ _
          · rw [z]; exact Nat.le_add_right _ _
          · rw [z]; exact Nat.le_refl _
          · rw [z]; exact Nat.le_add_right _ _
        exact I1.fpOk hle (I1.hok.fresh hle)
      obtain ⟨its, rv, p1, _⟩ := I1.tuple hqx
      obtain ⟨its2, rv2, p2, _⟩ := I1.tuple hqy
      obtain ⟨o1, ho1, _⟩ := id p1
      obtain ⟨o2, ho2, _⟩ := id p2
      refine RZ.call_zipT (show s1.heap.IsTuple a its.toArray from p1) (show s1.heap.IsTuple b its2.toArray from p2) fun h' hz hTI hTO h1 h2 hsz hk => ?_
      have I2 : Inv X pins σ H1 { s1 with heap := h' } := I1.kept (t' := s1.toks) hk
      have D := PySem.W.ktu_apart s1.heap.objs.size a b (Heap.lt_size ho1) (Heap.lt_size ho2)
      have hdone : ∀ H s ts q, Inv X pins σ H s → ZD H1 H q ts xs ys xs.length → EP X pins σ Q (.ref q) s := fun H s ts q I d => ⟨.ref q, H, I, rfl, q1 H q ts d⟩
      refine PyProof.Rows.args_nil ?_
      refine callType_codes (Q₁ := fun obj s₁ => obj = .ref h'.objs.size ∧ s₁ = { s1 with heap := h'.push { cls := .type "list", data := .seq #[] } }) PySem.F.called_list (PySem.F.typeCall_list_1 _) PySem.F.entry_list_init
        (code_list_new _ ⟨rfl, rfl⟩) fun obj s₁ h₁ => ?_
      obtain ⟨rfl, rfl⟩ := h₁
      have hS : (h'.push { cls := .type "list", data := .seq #[] }).get? h'.objs.size = some { cls := .type "list", data := .seq #[] } := Heap.get?_push_size _ rfl
      refine ⟨⟨_, hS, rfl⟩, PySem.F.args_list_init_2 _ _, ?_⟩
      have fr : H1 h'.objs.size = none := I2.hok.fresh (Nat.le_refl _)
      have I3 : Inv X pins σ (upd H1 h'.objs.size (.lst [])) { s1 with heap := h'.push { cls := .type "list", data := .seq #[] } } := I2.lnew (its := []) (t' := s1.toks) .nil (Nat.zero_le _)
      show wpAny _ _ (do let old ← Builtin.List.listItems (.ref h'.objs.size); Builtin.List.listUpdate (.ref h'.objs.size) (fun _ => #[]); letGo old.toList.reverse; Builtin.List.listExtendWith (.ref h'.objs.size) (.ref (s1.heap.objs.size + 4)) .none) _ _ _
      refine wpAny_bind ?_
      unfold Builtin.List.listItems
      refine wpAny_bind (wpAny_seqItems hS rfl (wpAny_pure ?_))
      show wpAny _ _ (updateSeq h'.objs.size (fun _ => #[]) >>= fun _ => letGo (#[] : Array Value).toList.reverse >>= fun _ => Builtin.List.listExtendWith (.ref h'.objs.size) (.ref (s1.heap.objs.size + 4)) .none) _ _ _
      refine wpAny_bind (wpAny_updateSeq hS rfl ?_)
      have I4 := I3.lset (f := fun _ => #[]) (its := []) (its' := []) (ys := []) (t' := s1.toks) upd_same hS rfl .nil (Nat.zero_le _)
      rw [upd_upd] at I4
      refine wpAny_bind (wpAny_letGo ?_)
      have ne : ∀ {c o}, h'.get? c = some o → c ≠ h'.objs.size := fun e ec => Nat.lt_irrefl _ (ec ▸ Heap.lt_size e)
      have up : ∀ {c o}, h'.get? c = some o → ((h'.push { cls := .type "list", data := .seq #[] }).update h'.objs.size (Obj.mapSeq fun _ => #[])).get? c = some o := fun e => (Heap.get?_update_other _ _ (Ne.symm (ne e))).trans (Heap.get?_push_of_some _ e)
      have st : IsZip ((h'.push { cls := .type "list", data := .seq #[] }).update h'.objs.size (Obj.mapSeq fun _ => #[])) (s1.heap.objs.size + 4) (s1.heap.objs.size + 2) (s1.heap.objs.size + 3) .none := up hz
      refine zl_extend (A1 := X.A.in1) (H0 := H1) (Rs := wants (fun r s₂ => r = .none ∧ EP X pins σ Q (.ref h'.objs.size) s₂) X.xe) (I1.ok.hd hc) D hl hz0 (fun H s ts I d => ⟨rfl, hdone _ _ _ _ I d⟩) I4 st ⟨up hTI, h1.at fun o q => up q, h2.at fun o q => up q, .inl ⟨st, _, _, up hTO⟩⟩
        (fun c hcm => ⟨?_, (fresh5 c hcm).2⟩) (SqT.keep (Same.new fr) hqx) (SqT.keep (Same.new fr) hqy) upd_same (Same.new fr) fr
      have f := (fresh5 c hcm).1
      by_cases e : c = h'.objs.size
      · have hcl : c < h'.objs.size := by
          have e' : c = s1.heap.objs.size + 4 ∨ c = s1.heap.objs.size + 2 ∨ c = s1.heap.objs.size + 3 ∨ c = s1.heap.objs.size ∨ c = s1.heap.objs.size + 1 := by simpa using hcm
          rw [hsz]
          rcases e' with z | z | z | z | z
          · rw [z]; exact Nat.add_lt_add_left (by decide) _
          · rw [z]; exact Nat.add_lt_add_left (by decide) _
          · rw [z]; exact Nat.add_lt_add_left (by decide) _
          · rw [z]; exact Nat.lt_add_of_pos_right (by decide)
          · rw [z]; exact Nat.add_lt_add_left (by decide) _
        exact absurd e (Nat.ne_of_lt hcl)
      · rw [upd_ne e]; exact f
theorem pe_listZipK {K : PySem.W.Frag} {e e2 : Expr} {ta : TA} {p p2 pos pos2 : Pos} (hg2 : Gl X "list") (hm2 : X.mg "list" = none) (hg : Gl X "zip") (hm : X.mg "zip" = none) (ha : PA X [e, e2] ta) (h : X.K = K) (hc : X.calm = true := by rfl)
    (hs : starEach [e, e2] X.env = (false, eval e X.env) :: starEach [e2] X.env := by rfl) (hpl : (backTo pos (starEach [e2] X.env)).any (·.1) = false := by rfl)
    (na : starEach [.Call (.Name "zip" p) [e, e2] [] pos] X.env = (false, eval (.Call (.Name "zip" p) [e, e2] [] pos) X.env) :: starEach [] X.env := by rfl) :
    PE X (.Call (.Name "list" p2) [.Call (.Name "zip" p) [e, e2] [] pos] [] pos2) (tLZ K ta) := h ▸ pe_listZip hg2 hm2 hg hm ha hc hs hpl na
end
end U
namespace U
open PySem PySem.Spec PyProof.Rows L2
/-! ### two lists of the same objects; isinstance of an own class; extend by a new list -/
section
variable {X : Cx} {K : PySem.W.Frag} {H : Hp} {Q : VK}
def rNeSame (K : PySem.W.Frag) : R2 := fun x y H Q => ∃ (a b : Addr) (ts : List Addr), x = .ref a ∧ y = .ref b ∧ SqL K H a (ts.map V.ref) ∧ SqL K H b (ts.map V.ref) ∧ Q (.bl false) H
theorem vals_refs : ∀ {ts : List Addr} {us : List Value}, Vals (ts.map V.ref) us → us = ts.map Value.ref
  | [], _, .nil => rfl
  | t :: ts, _, .cons r q => by
    cases r
    rw [vals_refs q]
    rfl
theorem op_neSame (hu : X.A.units < cLine) : OpR X (compareOp .NotEq) (rNeSame X.K) := by
  intro pins s σ H x y v u Q I rx ry h
  obtain ⟨a, b, ts, rfl, rfl, h1, h2, q⟩ := h
  cases rx
  cases ry
  obtain ⟨i1, r1, p1, _⟩ := I.list h1
  obtain ⟨i2, r2, p2, _⟩ := I.list h2
  have e1 := vals_refs r1
  have e2 := vals_refs r2
  subst e1
  subst e2
  refine SeqAt.RcNeAt.lists (e := fun _ => true) p1.isList p2.isList rfl hu (fun j hj _ => ?_) _ _ _ _ ⟨.bl _, H, I, rfl, ?_⟩
  · exact SeqAt.EqAt.same _
  · have e : (List.range (ts.map Value.ref).toArray.size).all (fun _ => true) = true := by simp
    rw [e]
    exact q
theorem uNe_same {a b : Addr} {ts : List Addr} (h1 : SqL K H a (ts.map V.ref)) (h2 : SqL K H b (ts.map V.ref)) (q : Q (.bl false) H) : rNeSame K (.ref a) (.ref b) H Q := ⟨a, b, ts, rfl, rfl, h1, h2, q⟩
/-! isinstance(x, C), C a class of the program -/
def isoB (K : PySem.W.Frag) (C : Addr) : Bool :=
  decide (PySem.W.findIn K (.ref C) "__class__" = some (some (.builtin "object.__class__"))) && (decide (PySem.W.specialIn K (.builtin "object.__class__") "__get__" = some (some (.builtin "getset_descriptor.__get__"))) &&
    (decide (PySem.W.takesIn K (.builtin "object.__class__") = some true) && (decide (PySem.W.mroIn K C (.type "object") = some true) && (decide (PySem.W.kitOne K (.ref C) (.ref C) = some true) &&
      ["NoneType", "bool", "int", "str", "list", "tuple"].all fun n => decide (PySem.W.kitOne K (.type n) (.ref C) = some false)))))
theorem uIsi_own {a C dx : Addr} {fs : List (Str × V)} (c : isoB K C = true) (cl : Cls K C) (h : H a = some (.ins C dx fs)) (q : Q (.bl true) H) : rIsi K [.ref a, .ref C] H Q := by
  unfold isoB at c
  simp only [Bool.and_eq_true, decide_eq_true_eq] at c
  obtain ⟨c1, c2, c3, c4, c5, _⟩ := c
  exact ⟨.ref a, .ref C, _, _, true, rfl, .own C, .base (.ins h cl c1 c2 c3 c4), c5, q⟩
theorem uIsi_not {x : V} {C : Addr} {n : String} (c : isoB K C = true) (h : TyX K H x (.type n)) (hn : n ∈ ["NoneType", "bool", "int", "str", "list", "tuple"]) (q : Q (.bl false) H) : rIsi K [x, .ref C] H Q := by
  unfold isoB at c
  simp only [Bool.and_eq_true, decide_eq_true_eq] at c
  obtain ⟨_, _, _, _, _, c6⟩ := c
  exact ⟨x, .ref C, _, _, false, rfl, .own C, h, of_decide_eq_true (List.all_eq_true.mp c6 n hn), q⟩
theorem ext_l {l b : Addr} {xs zs : List V} (h : H l = some (.lst xs)) (hb : H b = some (.lst zs)) (hz : xs.length + zs.length ≤ sizeLine) (q : Q .non (upd H l (.lst (xs ++ zs)))) : rExtend (.ref l) [.ref b] H Q := ⟨l, b, xs, zs, rfl, rfl, h, hb, hz, q⟩
theorem rd_lz {ta : TA} {σ : L2.St} (q : ta σ H fun vs H1 => ∃ a b xs ys, vs = [.ref a, .ref b] ∧ SqT K H1 a xs ∧ SqT K H1 b ys ∧ xs.length = ys.length ∧ xs.length ≤ sizeLine ∧ ∀ H' q ts, ZD H1 H' q ts xs ys xs.length → Q (.ref q) H') : tLZ K ta σ H Q := q
theorem rd_tup3 {al : TA} {σ : L2.St} (q : al σ H fun xs H1 => xs.length ≤ sizeLine ∧ ∀ p, H1 p = none → Q (.ref p) (upd H1 p (.tup xs))) : tTup al σ H Q := q
end
end U
namespace U
open PySem PySem.Spec PyProof.Rows L2
/-! ### split and partition at one sign -/
section
variable {H : Hp} {Q : VK}
def uSplit : V → List V → Hp → VK → Prop := fun x xs H Q => ∃ a b, x = .str a ∧ xs = [.str b] ∧ (b.length == 0) = false ∧ a.length + 2 ≤ sizeLine ∧ rNewStrs (Txt.split a b) H Q
def uPart : V → List V → Hp → VK → Prop := fun x xs H Q => ∃ a b, x = .str a ∧ xs = [.str b] ∧ (b.length == 0) = false ∧ a.length ≤ sizeLine ∧
  ∀ p, H p = none → Q (.ref p) (upd H p (.tup [.str (Txt.partition a b).1, .str (Txt.partition a b).2.1, .str (Txt.partition a b).2.2]))
theorem pe_splitU {X : Cx} {o e : Expr} {to te : TE} {apos pos : Pos} (ho : PE X o to) (he : PE X e te) (hs : starEach [e] X.env = [(false, eval e X.env)] := by rfl) (hbase : attributeBase o "split" X.env (eval o X.env) = eval o X.env := by rfl) (hline : (apos.endLine == pos.line) = true := by rfl) :
    PE X (.Call (.Attribute o "split" apos) [e] [] pos) (tM1 uSplit to te) := pe_split ho he hs hbase hline
theorem pe_partU {X : Cx} {o e : Expr} {to te : TE} {apos pos : Pos} (ho : PE X o to) (he : PE X e te) (hs : starEach [e] X.env = [(false, eval e X.env)] := by rfl) (hbase : attributeBase o "partition" X.env (eval o X.env) = eval o X.env := by rfl) (hline : (apos.endLine == pos.line) = true := by rfl) :
    PE X (.Call (.Attribute o "partition" apos) [e] [] pos) (tM1 uPart to te) := pe_partition ho he hs hbase hline
theorem uSplit_c {c : Nat} {a : List Nat} (hc : c < 256) (hz : a.length + 2 ≤ sizeLine) (q : ∀ p, H p = none → Q (.ref p) (upd H p (.lst ((TL.spl [c] 0 [] a).map fun l => V.str (S l))))) :
    uSplit (.str (S a)) [.str (S [c])] H Q := by
  refine ⟨_, _, rfl, rfl, rfl, by rw [S_len]; exact hz, fun p hp => ?_⟩
  have e : Txt.split (S a) (S [c]) = (TL.spl [c] 0 [] a).map S := SX.split_S (by simp) (by simpa using hc)
  rw [e, List.map_map]
  exact q p hp
def parC (c : Nat) (a : List Nat) : List Nat × List Nat × List Nat := match TL.par [c] [] a with
  | some (p, q) => (p, [c], q)
  | none => (a, [], [])
theorem uPart_c {c : Nat} {a : List Nat} (hz : a.length ≤ sizeLine) (q : ∀ p, H p = none → Q (.ref p) (upd H p (.tup [.str (S (parC c a).1), .str (S (parC c a).2.1), .str (S (parC c a).2.2)]))) :
    uPart (.str (S a)) [.str (S [c])] H Q := by
  refine ⟨_, _, rfl, rfl, rfl, by rw [S_len]; exact hz, fun p hp => ?_⟩
  have e : Txt.partition (S a) (S [c]) = (S (parC c a).1, S (parC c a).2.1, S (parC c a).2.2) := by
    unfold parC
    cases h : TL.par [c] [] a with
    | none => exact SX.partition_none (by simp) h
    | some r =>
      obtain ⟨u, v⟩ := r
      exact SX.partition_some (by simp) h
  rw [e]
  exact q p hp
end
theorem rd_rng3 {al : TA} {σ : L2.St} {H : Hp} {R : It → Hp → Prop} (q : al σ H fun vs H1 => ∃ (i j c : Int) (n : Nat), vs = [.int i, .int j, .int c] ∧ RgC i j c n ∧ R (Itc i c n) H1) : iRng3 al σ H R := q
end U
namespace U
open PySem PySem.Spec PyProof.Rows L2
/-! ### all but lists stay -/
def KeepL (H H' : Hp) : Prop := ∀ a o, H a = some o → (∀ xs, o ≠ .lst xs) → H' a = some o
theorem KeepL.refl {H : Hp} : KeepL H H := fun _ _ h _ => h
theorem KeepL.trans {H H1 H2 : Hp} (a : KeepL H H1) (b : KeepL H1 H2) : KeepL H H2 := fun p o h n => b p o (a p o h n) n
theorem KeepL.of {H H' : Hp} (s : Same H H') : KeepL H H' := fun a o h _ => s a o h
theorem KeepL.lst {H : Hp} {p : Addr} {xs : List V} {o : HO} (h : H p = some (.lst xs)) : KeepL H (upd H p o) := fun a u e n => by
  rw [upd_ne (fun z => by rw [z, h] at e; cases e; exact n _ rfl)]
  exact e
theorem KeepL.new {H : Hp} {p : Addr} {o : HO} (h : H p = none) : KeepL H (upd H p o) := KeepL.of (Same.new h)
theorem KeepL.t {H H' : Hp} (k : KeepL H H') : KeepT H H' := fun a xs h => k a _ h fun _ e => nomatch e
/-! ### range(0, 3 * m, 3) -/
theorem rgC3 {m : Nat} (h : m < 2 ^ 50) : RgC 0 ((3 * m : Nat) : Int) 3 m := by
  have e : Builtin.Range.rangeSize 0 ((3 * m : Nat) : Int) 3 = (m : Int) := by
    rw [PyProof.Rows.rangeSize_pos (by decide) (by omega)]
    omega
  refine ⟨by decide, by decide, ?_, e⟩
  unfold Builtin.Range.small
  rw [e]
  generalize hx : ((3 * m : Nat) : Int) = x
  have hx0 : 0 ≤ x := by omega
  have hx1 : x < 2 ^ 52 := by omega
  have hm1 : (m : Int) < 2 ^ 50 := by omega
  have hy0 : (0 : Int) ≤ (m : Int) := by omega
  clear e
  generalize (m : Int) = y at *
  have fits : ∀ i : Int, -(2 ^ 63) ≤ i → i < 2 ^ 63 → Builtin.Range.rangeFitsLong i = true := fun i h1 h2 => by
    unfold Builtin.Range.rangeFitsLong
    rw [decide_eq_true h1, decide_eq_true h2]
    rfl
  rw [fits 0 (by decide) (by decide), fits x (by omega) (by omega), fits 3 (by decide) (by decide), fits y (by omega) (by omega), if_pos (by decide), fits (x + (3 - 1)) (by omega) (by omega), Bool.or_true]
  rfl
/-! ### rows of a text -/
theorem spl_few {c : Nat} : ∀ (a acc : List Nat), (TL.spl [c] 0 acc a).length ≤ a.length + 1 ∧ TL.spl [c] 0 acc a ≠ [] ∧ ∀ r ∈ TL.spl [c] 0 acc a, r.length ≤ acc.length + a.length
  | [], acc => by
    rw [TL.spl_nil]
    refine ⟨by simp, by simp, fun r hr => ?_⟩
    rw [List.mem_singleton.mp hr]
    simp
  | d :: r, acc => by
    by_cases hc : d = c
    · subst hc
      rw [TL.spl_hit (by simp [TL.pre])]
      obtain ⟨h1, h2, h3⟩ := spl_few (c := d) r []
      refine ⟨?_, by simp, fun x hx => ?_⟩
      · show (TL.spl [d] 0 [] r).length + 1 ≤ r.length + 1 + 1
        omega
      · rcases List.mem_cons.mp hx with e | hx
        · rw [e]; simp
        · have := h3 x hx
          simp at this ⊢
          omega
    · rw [TL.spl_miss (by simp [TL.pre]; exact fun e => hc e)]
      obtain ⟨h1, h2, h3⟩ := spl_few (c := c) r (acc ++ [d])
      refine ⟨?_, h2, fun x hx => ?_⟩
      · simp
        omega
      · have := h3 x hx
        simp at this ⊢
        omega
abbrev rowsOf (t : List Nat) : List (List Nat) := TL.spl [10] 0 [] t
theorem rows_len (t : List Nat) : (rowsOf t).length ≤ t.length + 1 := (spl_few t []).1
theorem rows_ne (t : List Nat) : rowsOf t ≠ [] := (spl_few t []).2.1
theorem row_len {t r : List Nat} (h : r ∈ rowsOf t) : r.length ≤ t.length := by
  have := (spl_few t []).2.2 r h
  simpa using this
end U
namespace U
open PySem PySem.Spec PyProof.Rows L2 HotX L2H
/-! ### try .. except C, its reading by name -/
def tTry (K : PySem.W.Frag) (c : Value) (ts : Addr → Value → Option Addr → TS) (tb : WX → TS) : TS := fun D σ H => tb (wTake K c ts D) D σ H
theorem rd_try {K : PySem.W.Frag} {c : Value} {ts : Addr → Value → Option Addr → TS} {tb : WX → TS} {D : Ends} {σ : L2.St} {H : Hp} (q : tb (wTake K c ts D) D σ H) : tTry K c ts tb D σ H := q
theorem ps_takeXK {F : Fam} {X : Cx} {K : PySem.W.Frag} {x : Str} {c : Value} {body suite : List Stmt} {b₀ : Stmt} {np pos pos' : Pos} {tb : WX → TS} {ts : Addr → Value → Option Addr → TS}
    {G : Fam} {Wout : WX} (hs : X.stack = X.env :: X.outer) (hf : X.env.frame = some X.env.locals) (hc : Names X x c) (hpa : ∀ hd : Option Value, PassesOwnAt (model X.prog X.w) (X.A.mark hd) X.A X.env X.xe) (tk : TakesZ G X Wout)
    (hn : ∀ c d o, F.Z c d o → PXN.CtxN o)
    (hb : ∀ (W : WX) (pn : List (Addr × Obj)) (xe : Value → Shared → Prop), TakesZ F (X.tr pn xe) W → PassesOwn (model X.prog X.w) X.A X.env xe → PSs (X.tr pn xe) body (tb W))
    (hsu : ∀ (a : Addr) (oe : Obj) (cls : Value) (d : Option Addr) (pn : List (Addr × Obj)), F.Z cls d oe → (∃ vs, oe.data = .fields vs) → TakesZ G (suiteX X a ((a, oe) :: pn)) Wout → HotC (suiteX X a ((a, oe) :: pn)) →
      PSs (suiteX X a ((a, oe) :: pn)) (b₀ :: suite) (ts a cls d)) (h : X.K = K) :
    PS X (.Try body [.ExceptHandler (some (.Name x np)) none (b₀ :: suite) pos'] [] [] pos) (tTry K c ts tb) := h ▸ ps_takeX hs hf hc hpa tk hn hb hsu
end U
namespace U
open PySem PySem.Spec PyProof.Rows L2
section
variable {H : Hp} {Q : VK}
theorem rd_v16 {a0 a1 a2 a3 a4 a5 a6 a7 a8 a9 a10 a11 a12 a13 a14 a15 : Option V} {v : V} {σ : L2.St} (q : Q v H) : tVar 16 (a0 :: a1 :: a2 :: a3 :: a4 :: a5 :: a6 :: a7 :: a8 :: a9 :: a10 :: a11 :: a12 :: a13 :: a14 :: a15 :: some v :: σ) H Q := ⟨v, rfl, q⟩
theorem rd_g16 {a0 a1 a2 a3 a4 a5 a6 a7 a8 a9 a10 a11 a12 a13 a14 a15 : Option V} {x : Option V} {v : V} {σ : L2.St} {R : L2.St → Hp → Prop} (q : R (a0 :: a1 :: a2 :: a3 :: a4 :: a5 :: a6 :: a7 :: a8 :: a9 :: a10 :: a11 :: a12 :: a13 :: a14 :: a15 :: some v :: σ) H) : gName 16 v (a0 :: a1 :: a2 :: a3 :: a4 :: a5 :: a6 :: a7 :: a8 :: a9 :: a10 :: a11 :: a12 :: a13 :: a14 :: a15 :: x :: σ) H R := q
theorem rd_v17 {a0 a1 a2 a3 a4 a5 a6 a7 a8 a9 a10 a11 a12 a13 a14 a15 a16 : Option V} {v : V} {σ : L2.St} (q : Q v H) : tVar 17 (a0 :: a1 :: a2 :: a3 :: a4 :: a5 :: a6 :: a7 :: a8 :: a9 :: a10 :: a11 :: a12 :: a13 :: a14 :: a15 :: a16 :: some v :: σ) H Q := ⟨v, rfl, q⟩
theorem rd_g17 {a0 a1 a2 a3 a4 a5 a6 a7 a8 a9 a10 a11 a12 a13 a14 a15 a16 : Option V} {x : Option V} {v : V} {σ : L2.St} {R : L2.St → Hp → Prop} (q : R (a0 :: a1 :: a2 :: a3 :: a4 :: a5 :: a6 :: a7 :: a8 :: a9 :: a10 :: a11 :: a12 :: a13 :: a14 :: a15 :: a16 :: some v :: σ) H) : gName 17 v (a0 :: a1 :: a2 :: a3 :: a4 :: a5 :: a6 :: a7 :: a8 :: a9 :: a10 :: a11 :: a12 :: a13 :: a14 :: a15 :: a16 :: x :: σ) H R := q
theorem rd_v18 {a0 a1 a2 a3 a4 a5 a6 a7 a8 a9 a10 a11 a12 a13 a14 a15 a16 a17 : Option V} {v : V} {σ : L2.St} (q : Q v H) : tVar 18 (a0 :: a1 :: a2 :: a3 :: a4 :: a5 :: a6 :: a7 :: a8 :: a9 :: a10 :: a11 :: a12 :: a13 :: a14 :: a15 :: a16 :: a17 :: some v :: σ) H Q := ⟨v, rfl, q⟩
theorem rd_g18 {a0 a1 a2 a3 a4 a5 a6 a7 a8 a9 a10 a11 a12 a13 a14 a15 a16 a17 : Option V} {x : Option V} {v : V} {σ : L2.St} {R : L2.St → Hp → Prop} (q : R (a0 :: a1 :: a2 :: a3 :: a4 :: a5 :: a6 :: a7 :: a8 :: a9 :: a10 :: a11 :: a12 :: a13 :: a14 :: a15 :: a16 :: a17 :: some v :: σ) H) : gName 18 v (a0 :: a1 :: a2 :: a3 :: a4 :: a5 :: a6 :: a7 :: a8 :: a9 :: a10 :: a11 :: a12 :: a13 :: a14 :: a15 :: a16 :: a17 :: x :: σ) H R := q
theorem rd_v19 {a0 a1 a2 a3 a4 a5 a6 a7 a8 a9 a10 a11 a12 a13 a14 a15 a16 a17 a18 : Option V} {v : V} {σ : L2.St} (q : Q v H) : tVar 19 (a0 :: a1 :: a2 :: a3 :: a4 :: a5 :: a6 :: a7 :: a8 :: a9 :: a10 :: a11 :: a12 :: a13 :: a14 :: a15 :: a16 :: a17 :: a18 :: some v :: σ) H Q := ⟨v, rfl, q⟩
theorem rd_g19 {a0 a1 a2 a3 a4 a5 a6 a7 a8 a9 a10 a11 a12 a13 a14 a15 a16 a17 a18 : Option V} {x : Option V} {v : V} {σ : L2.St} {R : L2.St → Hp → Prop} (q : R (a0 :: a1 :: a2 :: a3 :: a4 :: a5 :: a6 :: a7 :: a8 :: a9 :: a10 :: a11 :: a12 :: a13 :: a14 :: a15 :: a16 :: a17 :: a18 :: some v :: σ) H) : gName 19 v (a0 :: a1 :: a2 :: a3 :: a4 :: a5 :: a6 :: a7 :: a8 :: a9 :: a10 :: a11 :: a12 :: a13 :: a14 :: a15 :: a16 :: a17 :: a18 :: x :: σ) H R := q
end
end U
namespace DM
abbrev L := List Nat
def letter (c : Nat) : Bool := decide (97 ≤ c) && decide (c ≤ 122)
def digit (c : Nat) : Bool := decide (48 ≤ c) && decide (c ≤ 57)
def wsign (c : Nat) : Bool := letter c || digit c
def delim (c : Nat) : Bool := c == 91 || c == 93 || c == 44
def wordOk : L → Bool
  | [] => false
  | c :: r => letter c && ((c :: r).all wsign && decide ((c :: r).length ≤ 12))
def num (z : Int) : L := (toString z).toList.map Char.toNat
def short (z : Int) : Bool := decide (-(10 ^ 4000 : Nat) < z) && decide (z < (10 ^ 4000 : Nat))

/-- data as the texts tell them; x: whatever is no data -/
inductive D where
  | s (w : L)
  | i (z : Int)
  | t (ds : List D)
  | x

mutual
def wr : D → Nat → Option L
  | .s w, _ => if wordOk w = true then some w else none
  | .i z, _ => if short z = true then some (num z) else none
  | .t ds, k => if k ≤ 1000 then (wrs ds (k + 1)).map (fun l => 91 :: (l ++ [93])) else none
  | .x, _ => none
def wrs : List D → Nat → Option L
  | [], _ => some []
  | d :: r, k => (wr d k).bind fun a => match r with
    | [] => some a
    | _ :: _ => (wrs r k).map fun b => a ++ 44 :: b
end
mutual
def wl : D → Option L
  | .s w => if wordOk w = true then some w else none
  | .i z => some (num z)
  | .t ds => (wls ds).map (fun l => 91 :: (l ++ [93]))
  | .x => none
def wls : List D → Option L
  | [] => some []
  | d :: r => (wl d).bind fun a => match r with
    | [] => some a
    | _ :: _ => (wls r).map fun b => a ++ 44 :: b
end

theorem wrs_snoc (d : D) (k : Nat) : ∀ (row : List D) (l a : L), wrs row k = some l → wr d k = some a →
    wrs (row ++ [d]) k = some (match row with | [] => a | _ :: _ => l ++ 44 :: a)
  | [], l, a, h1, h2 => by simp [wrs, h2]
  | e :: r, l, a, h1, h2 => by
    rw [List.cons_append, wrs]
    rw [wrs] at h1
    cases he : wr e k with
    | none => simp [he] at h1
    | some b =>
      simp only [he, Option.bind_some] at h1 ⊢
      cases r with
      | nil =>
        simp only [Option.some.injEq] at h1
        subst h1
        simp [wrs, h2]
      | cons f r =>
        simp only at h1
        cases hr : wrs (f :: r) k with
        | none => simp [hr] at h1
        | some m =>
          simp only [hr, Option.map_some, Option.some.injEq] at h1
          subst h1
          have ih := wrs_snoc d k (f :: r) m a hr h2
          rw [List.cons_append] at ih ⊢
          simp only at ih ⊢
          rw [ih]
          simp
theorem wls_snoc (d : D) : ∀ (row : List D) (l a : L), wls row = some l → wl d = some a →
    wls (row ++ [d]) = some (match row with | [] => a | _ :: _ => l ++ 44 :: a)
  | [], l, a, h1, h2 => by simp [wls, h2]
  | e :: r, l, a, h1, h2 => by
    rw [List.cons_append, wls]
    rw [wls] at h1
    cases he : wl e with
    | none => simp [he] at h1
    | some b =>
      simp only [he, Option.bind_some] at h1 ⊢
      cases r with
      | nil =>
        simp only [Option.some.injEq] at h1
        subst h1
        simp [wls, h2]
      | cons f r =>
        simp only at h1
        cases hr : wls (f :: r) with
        | none => simp [hr] at h1
        | some m =>
          simp only [hr, Option.map_some, Option.some.injEq] at h1
          subst h1
          have ih := wls_snoc d (f :: r) m a hr h2
          rw [List.cons_append] at ih ⊢
          simp only at ih ⊢
          rw [ih]
          simp

/-! ### pieces -/
def pcs : L → L → List L
  | cur, [] => if cur = [] then [] else [cur]
  | cur, c :: r => if delim c = true then (if cur = [] then [] else [cur]) ++ [c] :: pcs [] r else pcs (cur ++ [c]) r
theorem pcs_flat : ∀ (t cur : L), (pcs cur t).flatten = cur ++ t
  | [], cur => by
    unfold pcs
    split
    · simp_all
    · simp
  | c :: r, cur => by
    unfold pcs
    split
    · rw [List.flatten_append, List.flatten_cons, pcs_flat r []]
      split <;> simp_all
    · rw [pcs_flat r (cur ++ [c])]
      simp
def startsDelim : L → Prop
  | [] => True
  | c :: _ => delim c = true
theorem pcs_atom : ∀ (a r cur : L), (∀ c ∈ a, delim c = false) → cur ++ a ≠ [] → startsDelim r → pcs cur (a ++ r) = (cur ++ a) :: pcs [] r
  | [], r, cur, _, h, hs => by
    rw [List.append_nil] at h
    rw [List.nil_append, List.append_nil]
    cases r with
    | nil => simp [pcs, h]
    | cons c r =>
      have hc : delim c = true := hs
      rw [pcs, if_pos hc, if_neg h]
      conv => rhs; rw [pcs, if_pos hc]
      simp
  | c :: a, r, cur, ha, _, hs => by
    have hc : delim c = false := ha c (by simp)
    rw [List.cons_append, pcs, hc]
    simp only [Bool.false_eq_true, if_false]
    rw [pcs_atom a r (cur ++ [c]) (fun x hx => ha x (by simp [hx])) (by simp) hs]
    simp
theorem pcs_delim (c : Nat) (r : L) (h : delim c = true) : pcs [] (c :: r) = [c] :: pcs [] r := by
  rw [pcs, if_pos h]
  simp

/-! ### the program's reader -/
/-- the number of a piece -/
def val (l : L) : Nat := l.foldl (fun a c => a * 10 + (c - 48)) 0
def bodyOf (p : L) : L := if p.head? = some 45 then p.tail else p
def rdNum (p : L) : Option Int :=
  if bodyOf p = [] ∨ ¬ (bodyOf p).all digit = true ∨ ((bodyOf p).head? = some 48 ∧ p ≠ [48]) then none
  else some (if p.head? = some 45 then -((val (bodyOf p) : Nat) : Int) else ((val (bodyOf p) : Nat) : Int))
def bodyLen (p : L) : Nat := (bodyOf p).length
structure RS where
  tuples : List (List D)
  ready : Bool
  told : List D
def RS.item (st : RS) (d : D) : Option RS :=
  if st.ready = true then match st.tuples with
    | [] => some ⟨[], false, st.told ++ [d]⟩
    | row :: rest => some ⟨(row ++ [d]) :: rest, false, st.told⟩
  else none
def RS.take (st : RS) (p : L) : Option RS :=
  if p = [91] then (if st.ready = true ∧ st.tuples.length < 1000 then some ⟨[] :: st.tuples, st.ready, st.told⟩ else none)
  else if p = [93] then match st.tuples with
    | [] => none
    | row :: rest => if st.ready = true ∧ row ≠ [] then none else RS.item ⟨rest, true, st.told⟩ (.t row)
  else if p = [44] then (if st.ready = true ∨ st.tuples = [] then none else some ⟨st.tuples, true, st.told⟩)
  else if wordOk p = true then st.item (.s p)
  else if bodyLen p ≤ 4000 then (rdNum p).bind fun z => st.item (.i z) else none
def RS.run (st : RS) (ps : List L) : Option RS := match ps with
  | [] => some st
  | p :: r => (st.take p).bind fun st => st.run r
def rd (t : L) : Option D := (RS.run ⟨[], true, []⟩ (pcs [] t)).bind fun st => match st.tuples, st.told with
  | [], [d] => some d
  | _, _ => none

end DM
namespace DM
def digs (n : Nat) : L := (Nat.toDigits 10 n).map Char.toNat
theorem dchar : ∀ d : Nat, d < 10 → (Nat.digitChar d).toNat = 48 + d := by decide
theorem digs_lt {n : Nat} (h : n < 10) : digs n = [48 + n] := by
  unfold digs
  rw [Nat.toDigits_of_lt_base h]
  simp [dchar n h]
theorem digs_ge {n : Nat} (h : 10 ≤ n) : digs n = digs (n / 10) ++ [48 + n % 10] := by
  have hm : n % 10 < 10 := Nat.mod_lt n (by decide)
  have t : Nat.toDigits 10 (n / 10) ++ Nat.toDigits 10 (n % 10) = Nat.toDigits 10 (10 * (n / 10) + n % 10) :=
    Nat.toDigits_append_toDigits (by decide) (by omega) hm
  rw [Nat.div_add_mod] at t
  unfold digs
  rw [← t, List.map_append, Nat.toDigits_of_lt_base hm]
  simp [dchar _ hm]
theorem val_snoc (l : L) (c : Nat) : val (l ++ [c]) = val l * 10 + (c - 48) := by
  unfold val
  rw [List.foldl_append]
  rfl
theorem digs_ne (n : Nat) : digs n ≠ [] := by
  by_cases h : n < 10
  · rw [digs_lt h]; simp
  · rw [digs_ge (by omega)]; simp
theorem val_digs (n : Nat) : val (digs n) = n := by
  induction n using Nat.strongRecOn with
  | _ n ih =>
    by_cases h : n < 10
    · rw [digs_lt h]
      show 0 * 10 + (48 + n - 48) = n
      omega
    · rw [digs_ge (by omega), val_snoc, ih (n / 10) (by omega)]
      omega
theorem digs_all (n : Nat) : (digs n).all digit = true := by
  induction n using Nat.strongRecOn with
  | _ n ih =>
    by_cases h : n < 10
    · rw [digs_lt h]
      simp [digit]; omega
    · rw [digs_ge (by omega), List.all_append, ih (n / 10) (by omega)]
      simp [digit]; omega
theorem digs_head (n : Nat) (h : 0 < n) : (digs n).head? ≠ some 48 := by
  induction n using Nat.strongRecOn with
  | _ n ih =>
    by_cases h1 : n < 10
    · rw [digs_lt h1]
      simp; omega
    · rw [digs_ge (by omega)]
      have := ih (n / 10) (by omega) (by omega)
      cases e : digs (n / 10) with
      | nil => exact absurd e (digs_ne _)
      | cons a r => rw [e] at this; simpa using this
theorem digs_zero : digs 0 = [48] := digs_lt (by decide)
theorem val_ge : ∀ (l : L) (a : Nat), a ≤ l.foldl (fun a c => a * 10 + (c - 48)) a
  | [], _ => Nat.le_refl _
  | c :: r, a => Nat.le_trans (by omega) (val_ge r (a * 10 + (c - 48)))
theorem val_pos {l : L} (h : l ≠ []) (ha : l.all digit = true) (h0 : l.head? ≠ some 48) : 0 < val l := by
  cases l with
  | nil => exact absurd rfl h
  | cons c r =>
    have hc : digit c = true := by simp at ha; exact ha.1
    simp [digit] at hc
    have : c ≠ 48 := by simpa using h0
    have := val_ge r (0 * 10 + (c - 48))
    unfold val
    rw [List.foldl_cons]
    omega
theorem digs_val : ∀ (n : Nat) (l : L), l.length = n → l ≠ [] → l.all digit = true → (l.head? = some 48 → l = [48]) → digs (val l) = l := by
  intro n
  induction n with
  | zero => intro l h hn; exact absurd (List.length_eq_zero_iff.mp h) hn
  | succ n ih =>
    intro l hl hn ha h0
    have e : l = l.dropLast ++ [l.getLast hn] := (List.dropLast_concat_getLast hn).symm
    generalize l.dropLast = b at e
    generalize l.getLast hn = c at e
    subst e
    have hc : digit c = true := by simp at ha; exact ha.2
    simp [digit] at hc
    have hb : b.all digit = true := by simp at ha; simpa using ha.1
    rw [val_snoc]
    cases b with
    | nil =>
      rw [show val [] * 10 + (c - 48) = c - 48 by show 0 * 10 + _ = _; omega, digs_lt (by omega)]
      simp; omega
    | cons a r =>
      have hb0 : (a :: r).head? ≠ some 48 := by
        intro q
        have := h0 (by simpa using q)
        simp at this
      have hp := val_pos (l := a :: r) (by simp) hb hb0
      rw [digs_ge (by omega)]
      have e1 : (val (a :: r) * 10 + (c - 48)) / 10 = val (a :: r) := by omega
      have e2 : 48 + (val (a :: r) * 10 + (c - 48)) % 10 = c := by omega
      rw [e1, e2, ih (a :: r) (by simpa using hl) (by simp) hb (fun q => absurd q hb0)]
theorem num_nat (n : Nat) : num (n : Int) = digs n := by
  show ((Nat.repr n).toList).map Char.toNat = _
  rw [Nat.toList_repr]
  rfl
theorem num_neg (n : Nat) (h : 0 < n) : num (-(n : Int)) = 45 :: digs n := by
  obtain ⟨m, rfl⟩ : ∃ m, n = m + 1 := ⟨n - 1, by omega⟩
  show ((toString (Int.negSucc m)).toList).map Char.toNat = _
  have e : toString (Int.negSucc m) = "-" ++ Nat.repr (m + 1) := rfl
  rw [e, String.toList_append, List.map_append, Nat.toList_repr]
  rfl
theorem digs_no45 (n : Nat) : (digs n).head? ≠ some 45 := by
  intro q
  have := digs_all n
  cases e : digs n with
  | nil => rw [e] at q; simp at q
  | cons a r =>
    rw [e] at q this
    simp at q
    subst q
    simp [digit] at this
theorem body_pos {p : L} (h : p.head? ≠ some 45) : bodyOf p = p := if_neg h
theorem body_neg {r : L} : bodyOf (45 :: r) = r := if_pos rfl
theorem head45 {p : L} (h : p.head? = some 45) : ∃ r, p = 45 :: r := by
  cases p with
  | nil => simp at h
  | cons a r => simp at h; exact ⟨r, by rw [h]⟩
theorem rdNum_num (z : Int) : rdNum (num z) = some z := by
  rcases Int.le_total 0 z with h | h
  · obtain ⟨n, rfl⟩ := Int.eq_ofNat_of_zero_le h
    rw [num_nat]
    unfold rdNum
    have hh := digs_no45 n
    rw [body_pos hh]
    have c1 : ¬ (digs n = [] ∨ ¬ (digs n).all digit = true ∨ ((digs n).head? = some 48 ∧ digs n ≠ [48])) := by
      rintro (q | q | ⟨q, q2⟩)
      · exact digs_ne n q
      · exact q (digs_all n)
      · by_cases hz : n = 0
        · subst hz; exact q2 digs_zero
        · exact digs_head n (by omega) q
    rw [if_neg c1, if_neg hh, val_digs]
  · by_cases h0 : z = 0
    · subst h0; decide
    obtain ⟨n, rfl⟩ : ∃ n : Nat, z = -(n : Int) := ⟨z.natAbs, by omega⟩
    have hn : 0 < n := by omega
    rw [num_neg n hn]
    unfold rdNum
    rw [body_neg]
    have c1 : ¬ (digs n = [] ∨ ¬ (digs n).all digit = true ∨ ((digs n).head? = some 48 ∧ 45 :: digs n ≠ [48])) := by
      rintro (q | q | ⟨q, _⟩)
      · exact digs_ne n q
      · exact q (digs_all n)
      · exact digs_head n hn q
    rw [if_neg c1, if_pos (show (45 :: digs n).head? = some 45 from rfl), val_digs]
theorem rdNum_inv {p : L} {z : Int} (h : rdNum p = some z) : bodyOf p ≠ [] ∧ (bodyOf p).all digit = true ∧ ((bodyOf p).head? = some 48 → p = [48]) ∧
    z = if p.head? = some 45 then -((val (bodyOf p) : Nat) : Int) else ((val (bodyOf p) : Nat) : Int) := by
  unfold rdNum at h
  split at h
  · cases h
  · rename_i c
    simp only [not_or, Classical.not_not, not_and] at c
    exact ⟨c.1, c.2.1, c.2.2, (Option.some.inj h).symm⟩
theorem num_rdNum {p : L} {z : Int} (h : rdNum p = some z) : num z = p := by
  obtain ⟨c1, c2, c3, e⟩ := rdNum_inv h
  by_cases h45 : p.head? = some 45
  · rw [if_pos h45] at e
    obtain ⟨r, rfl⟩ := head45 h45
    rw [body_neg] at c1 c2 c3 e
    subst e
    have hh : r.head? ≠ some 48 := fun q => by have := c3 q; simp at this
    rw [num_neg _ (val_pos c1 c2 hh), digs_val _ r rfl c1 c2 (fun q => absurd q hh)]
  · rw [if_neg h45] at e
    rw [body_pos h45] at c1 c2 c3 e
    subst e
    rw [num_nat, digs_val _ p rfl c1 c2 c3]
/-- lengths and bounds -/
theorem digs_len_le : ∀ (k n : Nat), 0 < k → n < 10 ^ k → (digs n).length ≤ k
  | 0, _, h, _ => absurd h (by decide)
  | k + 1, n, _, h => by
    by_cases h1 : n < 10
    · rw [digs_lt h1]; simp
    · rw [digs_ge (by omega), List.length_append]
      have hk : 0 < k := by
        rcases k with _ | k
        · simp at h; omega
        · omega
      have := digs_len_le k (n / 10) hk (by rw [Nat.pow_succ] at h; omega)
      simp; omega
theorem val_lt : ∀ (l : L), l.all digit = true → val l < 10 ^ l.length := by
  intro l
  suffices h : ∀ (n : Nat) (l : L), l.length = n → l.all digit = true → val l < 10 ^ n from h _ l rfl
  intro n
  induction n with
  | zero =>
    intro l hl _
    rw [List.length_eq_zero_iff.mp hl]
    decide
  | succ n ih =>
    intro l hl ha
    have hn : l ≠ [] := by intro e; subst e; simp at hl
    have e : l = l.dropLast ++ [l.getLast hn] := (List.dropLast_concat_getLast hn).symm
    generalize l.dropLast = b at e
    generalize l.getLast hn = c at e
    subst e
    have hc : digit c = true := by simp at ha; exact ha.2
    simp [digit] at hc
    have hb : b.all digit = true := by simp at ha; simpa using ha.1
    have := ih b (by simpa using hl) hb
    rw [val_snoc, Nat.pow_succ]
    omega
theorem short_iff {z : Int} : short z = true ↔ z.natAbs < 10 ^ 4000 := by
  unfold short
  generalize 10 ^ 4000 = N
  simp only [Bool.and_eq_true, decide_eq_true_eq]
  omega
theorem bodyLen_num {z : Int} (h : short z = true) : bodyLen (num z) ≤ 4000 := by
  have h := short_iff.mp h
  have h4 : 0 < 4000 := by decide
  unfold bodyLen
  rcases Int.le_total 0 z with hz | hz
  · obtain ⟨n, rfl⟩ := Int.eq_ofNat_of_zero_le hz
    rw [num_nat, body_pos (digs_no45 n)]
    exact digs_len_le 4000 n h4 (by simpa using h)
  · by_cases h0 : z = 0
    · subst h0; decide
    obtain ⟨n, rfl⟩ : ∃ n : Nat, z = -(n : Int) := ⟨z.natAbs, by omega⟩
    rw [num_neg n (by omega), body_neg]
    exact digs_len_le 4000 n h4 (by simpa using h)
theorem short_of {p : L} {z : Int} (hb : bodyLen p ≤ 4000) (h : rdNum p = some z) : short z = true := by
  rw [short_iff]
  obtain ⟨c1, c2, c3, e⟩ := rdNum_inv h
  have k : val (bodyOf p) < 10 ^ 4000 := Nat.lt_of_lt_of_le (val_lt _ c2) (Nat.pow_le_pow_right (by decide) hb)
  have e2 : z.natAbs = val (bodyOf p) := by
    rw [e]
    split <;> simp
  rw [e2]
  exact k
end DM
namespace DM
/-! ### words and numbers have no delimiters -/
theorem wsign_nd {c : Nat} (h : wsign c = true) : delim c = false := by
  simp [wsign, letter, digit] at h
  simp [delim]; omega
theorem word_nd {w : L} (h : wordOk w = true) : ∀ c ∈ w, delim c = false := by
  cases w with
  | nil => simp
  | cons a r =>
    simp only [wordOk, Bool.and_eq_true] at h
    intro c hc
    exact wsign_nd (List.all_eq_true.mp h.2.1 c hc)
theorem word_ne {w : L} (h : wordOk w = true) : w ≠ [] := by
  rintro rfl
  cases h
theorem num_chars (z : Int) : num z ≠ [] ∧ ∀ c ∈ num z, c = 45 ∨ digit c = true := by
  rcases Int.le_total 0 z with hz | hz
  · obtain ⟨n, rfl⟩ := Int.eq_ofNat_of_zero_le hz
    rw [num_nat]
    exact ⟨digs_ne n, fun c hc => .inr (List.all_eq_true.mp (digs_all n) c hc)⟩
  · by_cases h0 : z = 0
    · subst h0; decide
    obtain ⟨n, rfl⟩ : ∃ n : Nat, z = -(n : Int) := ⟨z.natAbs, by omega⟩
    rw [num_neg n (by omega)]
    refine ⟨by simp, fun c hc => ?_⟩
    rcases List.mem_cons.mp hc with rfl | hc
    · exact .inl rfl
    · exact .inr (List.all_eq_true.mp (digs_all n) c hc)
theorem digit_nd {c : Nat} (h : c = 45 ∨ digit c = true) : delim c = false := by
  rcases h with rfl | h
  · decide
  · simp [digit] at h
    simp [delim]; omega
theorem num_nd (z : Int) : ∀ c ∈ num z, delim c = false := fun c hc => digit_nd ((num_chars z).2 c hc)
theorem word_num (z : Int) : wordOk (num z) = false := by
  cases e : num z with
  | nil => exact absurd e (num_chars z).1
  | cons a r =>
    have := (num_chars z).2 a (by rw [e]; simp)
    have hl : letter a = false := by
      rcases this with rfl | h
      · decide
      · simp [digit] at h
        simp [letter]; omega
    simp [wordOk, hl]
theorem sd_nd {a : L} {k : Nat} (h : a = [k]) (hk : delim k = true) (ha : ∀ c ∈ a, delim c = false) : False := by
  have := ha k (by rw [h]; simp)
  rw [this] at hk
  cases hk
theorem take_word {st : RS} {w : L} (h : wordOk w = true) : st.take w = st.item (.s w) := by
  unfold RS.take
  rw [if_neg (fun e => sd_nd e (by decide) (word_nd h)), if_neg (fun e => sd_nd e (by decide) (word_nd h)), if_neg (fun e => sd_nd e (by decide) (word_nd h)), if_pos h]
theorem take_num {st : RS} {z : Int} (h : short z = true) : st.take (num z) = st.item (.i z) := by
  unfold RS.take
  rw [if_neg (fun e => sd_nd e (by decide) (num_nd z)), if_neg (fun e => sd_nd e (by decide) (num_nd z)), if_neg (fun e => sd_nd e (by decide) (num_nd z)), word_num, if_neg Bool.false_ne_true, if_pos (bodyLen_num h), rdNum_num]
  rfl

/-! ### what the writer says, the reader reads -/
def RS.go (st : RS) (t : L) : Option RS := st.run (pcs [] t)
theorem go_nil (st : RS) : st.go [] = some st := by simp [RS.go, pcs, RS.run]
theorem go_delim (st : RS) (c : Nat) (r : L) (h : delim c = true) : st.go (c :: r) = (st.take [c]).bind fun s => s.go r := by
  unfold RS.go
  rw [pcs_delim c r h, RS.run]
theorem go_atom (st : RS) (a r : L) (ha : ∀ c ∈ a, delim c = false) (hn : a ≠ []) (hr : startsDelim r) : st.go (a ++ r) = (st.take a).bind fun s => s.go r := by
  unfold RS.go
  rw [pcs_atom a r [] ha (by simpa using hn) hr, RS.run]
  rfl
theorem item_ready {st : RS} {d : D} (h : st.ready = true) : st.item d = some (match st.tuples with
    | [] => ⟨[], false, st.told ++ [d]⟩
    | row :: rest => ⟨(row ++ [d]) :: rest, false, st.told⟩) := by
  obtain ⟨tu, re, to⟩ := st
  have h : re = true := h
  subst h
  cases tu <;> rfl
mutual
theorem go_wr : ∀ (d : D) (k : Nat) (a r : L) (st : RS), wr d k = some a → startsDelim r → st.ready = true → st.tuples.length + 1 = k → st.go (a ++ r) = (st.item d).bind fun s => s.go r
  | .s w, k, a, r, st, h, hr, _, _ => by
    rw [wr] at h
    split at h
    · rename_i hw
      cases h
      rw [go_atom st _ r (word_nd hw) (word_ne hw) hr, take_word hw]
    · cases h
  | .i z, k, a, r, st, h, hr, _, _ => by
    rw [wr] at h
    split at h
    · rename_i hw
      cases h
      rw [go_atom st _ r (num_nd z) (num_chars z).1 hr, take_num hw]
    · cases h
  | .x, k, a, r, st, h, _, _, _ => by rw [wr] at h; cases h
  | .t ds, k, a, r, st, h, hr, h1, h2 => by
    rw [wr] at h
    split at h
    · rename_i hk
      cases e : wrs ds (k + 1) with
      | none => rw [e] at h; cases h
      | some l =>
        rw [e] at h
        cases h
        have ea : (91 :: (l ++ [93])) ++ r = 91 :: (l ++ 93 :: r) := by simp
        rw [ea, go_delim _ _ _ (by decide)]
        have eo : st.take [91] = some ⟨[] :: st.tuples, st.ready, st.told⟩ := by
          unfold RS.take
          rw [if_pos rfl, if_pos ⟨h1, by omega⟩]
        rw [eo, Option.bind_some, go_wrs ds (k + 1) l (93 :: r) ⟨[] :: st.tuples, st.ready, st.told⟩ [] st.tuples e (by simp [startsDelim, delim]) h1 (by simp; omega) rfl]
        rw [go_delim _ _ _ (by decide)]
        have ec : (RS.mk (([] ++ ds) :: st.tuples) ds.isEmpty st.told).take [93] = st.item (.t ds) := by
          unfold RS.take
          rw [if_neg (by decide), if_pos rfl]
          dsimp only
          rw [if_neg (by cases ds <;> simp)]
          rw [item_ready rfl, item_ready h1]
          dsimp only
          rw [List.nil_append]
        rw [ec]
    · cases h
theorem go_wrs : ∀ (ds : List D) (k : Nat) (a r : L) (st : RS) (row : List D) (rest : List (List D)), wrs ds k = some a → startsDelim r → st.ready = true → st.tuples.length + 1 = k → st.tuples = row :: rest →
    st.go (a ++ r) = (RS.mk ((row ++ ds) :: rest) ds.isEmpty st.told).go r
  | [], k, a, r, st, row, rest, h, _, h1, _, h3 => by
    rw [wrs] at h
    cases h
    obtain ⟨tu, re, to⟩ := st
    simp only at h1 h3
    subst h1 h3
    simp
  | d :: ds, k, a, r, st, row, rest, h, hr, h1, h2, h3 => by
    rw [wrs] at h
    cases e : wr d k with
    | none => rw [e] at h; cases h
    | some b =>
      rw [e, Option.bind_some] at h
      cases ds with
      | nil =>
        cases h
        rw [go_wr d k _ r st e hr h1 h2, item_ready h1, h3]
        rfl
      | cons f ds =>
        dsimp only at h
        cases e2 : wrs (f :: ds) k with
        | none => rw [e2] at h; cases h
        | some m =>
          rw [e2] at h
          cases h
          have ea : (b ++ 44 :: m) ++ r = b ++ 44 :: (m ++ r) := by simp
          rw [ea, go_wr d k b _ st e (by simp [startsDelim, delim]) h1 h2, item_ready h1, h3, Option.bind_some, go_delim _ _ _ (by decide)]
          have ec : (RS.mk ((row ++ [d]) :: rest) false st.told).take [44] = some ⟨(row ++ [d]) :: rest, true, st.told⟩ := by
            unfold RS.take
            rw [if_neg (by decide), if_neg (by decide), if_pos rfl, if_neg (by simp)]
          rw [ec, Option.bind_some, go_wrs (f :: ds) k m r ⟨(row ++ [d]) :: rest, true, st.told⟩ (row ++ [d]) rest e2 hr rfl (by rw [h3] at h2; exact h2) rfl]
          simp
end
theorem rd_of_wr {d : D} {a : L} (h : wr d 1 = some a) : rd a = some d := by
  have := go_wr d 1 a [] ⟨[], true, []⟩ h trivial rfl rfl
  rw [List.append_nil, item_ready rfl, Option.bind_some, go_nil] at this
  unfold rd
  rw [show RS.run ⟨[], true, []⟩ (pcs [] a) = RS.go ⟨[], true, []⟩ a from rfl, this]
  rfl

/-! ### what the reader reads, the writer says -/
def txt : List (List D) → Bool → Option L
  | [], _ => some []
  | row :: rest, rdy => (txt rest true).bind fun l0 => (wrs row (rest.length + 2)).map fun b => l0 ++ 91 :: (b ++ (if rdy = true ∧ row ≠ [] then [44] else []))
structure Good (st : RS) (p : L) : Prop where
  len : st.tuples.length ≤ 1000
  done : st.told ≠ [] → st.tuples = [] ∧ st.ready = false ∧ ∃ d, st.told = [d] ∧ wr d 1 = some p
  open_ : st.told = [] → txt st.tuples st.ready = some p ∧ (st.ready = false → ∃ row rest, st.tuples = row :: rest ∧ row ≠ [])
theorem good_item {st st' : RS} {p a : L} {d : D} (g : Good st p) (h : st.item d = some st') (hw : wr d (st.tuples.length + 1) = some a) : Good st' (p ++ a) := by
  unfold RS.item at h
  split at h
  · rename_i hr
    have ht : st.told = [] := by
      by_cases e : st.told = []
      · exact e
      · have := (g.done e).2.1
        rw [hr] at this
        cases this
    have o := (g.open_ ht).1
    split at h
    · rename_i e
      cases h
      rw [e] at o hw
      rw [txt] at o
      cases o
      refine ⟨Nat.zero_le _, fun _ => ⟨rfl, rfl, d, by rw [ht]; rfl, by simpa using hw⟩, fun q => ?_⟩
      simp at q
    · rename_i row rest e
      cases h
      refine ⟨by have := g.len; rw [e] at this; exact this, fun q => absurd ht q, fun _ => ⟨?_, fun _ => ⟨_, _, rfl, by simp⟩⟩⟩
      rw [e, txt] at o
      rw [e] at hw
      cases e0 : txt rest true with
      | none => rw [e0] at o; cases o
      | some l0 =>
        rw [e0, Option.bind_some] at o
        cases e1 : wrs row (rest.length + 2) with
        | none => rw [e1] at o; cases o
        | some b =>
          rw [e1] at o
          simp only [Option.map_some, Option.some.injEq] at o
          subst o
          have hs := wrs_snoc d (rest.length + 2) row b a e1 (by simpa using hw)
          rw [txt, e0, Option.bind_some, hs]
          simp only [Option.map_some, Option.some.injEq]
          rw [hr]
          cases row with
          | nil =>
            rw [wrs] at e1
            cases e1
            simp
          | cons f row => simp
  · cases h
theorem good_take {st st' : RS} {p q : L} (g : Good st p) (h : st.take q = some st') : Good st' (p ++ q) := by
  unfold RS.take at h
  split at h
  · rename_i e
    subst e
    split at h
    · rename_i c
      cases h
      have ht : st.told = [] := by
        by_cases e : st.told = []
        · exact e
        · have := (g.done e).2.1
          rw [c.1] at this
          cases this
      have o := (g.open_ ht).1
      refine ⟨by simp; omega, fun q => absurd ht q, fun _ => ⟨?_, fun q => by rw [c.1] at q; cases q⟩⟩
      rw [txt]
      rw [c.1] at o
      rw [o]
      simp [wrs]
    · cases h
  split at h
  · rename_i e
    subst e
    split at h
    · cases h
    · rename_i row rest e
      split at h
      · cases h
      · rename_i c
        have ht : st.told = [] := by
          by_cases e2 : st.told = []
          · exact e2
          · have := (g.done e2).1
            rw [this] at e
            cases e
        have o := (g.open_ ht).1
        rw [e, txt] at o
        cases e0 : txt rest true with
        | none => rw [e0] at o; cases o
        | some l0 =>
          rw [e0, Option.bind_some] at o
          cases e1 : wrs row (rest.length + 2) with
          | none => rw [e1] at o; cases o
          | some b =>
            rw [e1] at o
            rw [if_neg c] at o
            simp only [Option.map_some, Option.some.injEq, List.append_nil] at o
            subst o
            have hl := g.len
            rw [e] at hl
            have g0 : Good ⟨rest, true, st.told⟩ l0 := ⟨by simp at hl; show rest.length ≤ 1000; omega, fun q => absurd ht q, fun _ => ⟨e0, fun q => by cases q⟩⟩
            have hw : wr (.t row) (rest.length + 1) = some (91 :: (b ++ [93])) := by
              rw [wr, if_pos (by simp at hl; omega), e1]
              rfl
            have := good_item g0 h hw
            simpa using this
  split at h
  · rename_i e
    subst e
    split at h
    · cases h
    · rename_i c
      cases h
      simp only [not_or] at c
      have hr : st.ready = false := by
        cases e : st.ready with
        | true => exact absurd e c.1
        | false => rfl
      have ht : st.told = [] := by
        by_cases e : st.told = []
        · exact e
        · exact absurd (g.done e).1 c.2
      obtain ⟨o, hrow⟩ := g.open_ ht
      obtain ⟨row, rest, e, hne⟩ := hrow hr
      refine ⟨g.len, fun q => absurd ht q, fun _ => ⟨?_, fun q => by cases q⟩⟩
      rw [e, txt] at o
      rw [e, txt]
      cases e0 : txt rest true with
      | none => rw [e0] at o; cases o
      | some l0 =>
        rw [e0, Option.bind_some] at o
        cases e1 : wrs row (rest.length + 2) with
        | none => rw [e1] at o; cases o
        | some b =>
          rw [e1, hr] at o
          simp at o
          subst o
          simp [hne]
  split at h
  · rename_i hw
    exact good_item g h (by rw [wr, if_pos hw])
  split at h
  · rename_i hb
    cases e : rdNum q with
    | none => rw [e] at h; cases h
    | some z =>
      rw [e, Option.bind_some] at h
      exact good_item g h (by rw [wr, if_pos (short_of hb e), num_rdNum e])
  · cases h
theorem good_run : ∀ (ps : List L) (st st' : RS) (p : L), Good st p → st.run ps = some st' → Good st' (p ++ ps.flatten)
  | [], st, st', p, g, h => by
    rw [RS.run] at h
    cases h
    simpa using g
  | q :: ps, st, st', p, g, h => by
    rw [RS.run] at h
    cases e : st.take q with
    | none => rw [e] at h; cases h
    | some s =>
      rw [e, Option.bind_some] at h
      have := good_run ps s st' (p ++ q) (good_take g e) h
      simpa using this
theorem wr_of_rd {d : D} {t : L} (h : rd t = some d) : wr d 1 = some t := by
  unfold rd at h
  cases e : RS.run ⟨[], true, []⟩ (pcs [] t) with
  | none => rw [e] at h; cases h
  | some st =>
    rw [e, Option.bind_some] at h
    have g0 : Good ⟨[], true, []⟩ [] := ⟨Nat.zero_le _, fun q => absurd rfl q, fun _ => ⟨rfl, fun q => by cases q⟩⟩
    have g := good_run _ _ _ _ g0 e
    rw [pcs_flat] at g
    simp only [List.nil_append] at g
    split at h
    · rename_i e1 e2
      cases h
      obtain ⟨_, _, d', h1, h2⟩ := g.done (by rw [e2]; simp)
      rw [e2] at h1
      cases h1
      exact h2
    · cases h
theorem rd_iff {d : D} {t : L} : rd t = some d ↔ wr d 1 = some t := ⟨wr_of_rd, rd_of_wr⟩
end DM
namespace DM
/-! ### depth, short numbers -/
mutual
def dep : D → Nat
  | .t ds => 1 + deps ds
  | .s _ => 0
  | .i _ => 0
  | .x => 0
def deps : List D → Nat
  | [] => 0
  | d :: r => max (dep d) (deps r)
end
mutual
def shorts : D → Bool
  | .t ds => shortss ds
  | .i z => short z
  | .s _ => true
  | .x => true
def shortss : List D → Bool
  | [] => true
  | d :: r => shorts d && shortss r
end
mutual
theorem wl_of_wr : ∀ (d : D) (k : Nat) (a : L), wr d k = some a → wl d = some a
  | .s w, k, a, h => by
    rw [wr] at h
    rw [wl]
    exact h
  | .i z, k, a, h => by
    rw [wr] at h
    rw [wl]
    split at h
    · exact h
    · cases h
  | .t ds, k, a, h => by
    rw [wr] at h
    rw [wl]
    split at h
    · cases e : wrs ds (k + 1) with
      | none => rw [e] at h; cases h
      | some l =>
        rw [e] at h
        rw [wls_of_wrs ds (k + 1) l e]
        exact h
    · cases h
  | .x, k, a, h => by rw [wr] at h; cases h
theorem wls_of_wrs : ∀ (ds : List D) (k : Nat) (a : L), wrs ds k = some a → wls ds = some a
  | [], k, a, h => by rw [wrs] at h; rw [wls]; exact h
  | d :: r, k, a, h => by
    rw [wrs] at h
    rw [wls]
    cases e : wr d k with
    | none => rw [e] at h; cases h
    | some b =>
      rw [e] at h
      rw [wl_of_wr d k b e]
      simp only [Option.bind_some] at h ⊢
      cases r with
      | nil => exact h
      | cons f q =>
        simp only at h ⊢
        cases e2 : wrs (f :: q) k with
        | none => rw [e2] at h; cases h
        | some c =>
          rw [e2] at h
          rw [wls_of_wrs (f :: q) k c e2]
          exact h
end
mutual
theorem wr_of_wl : ∀ (d : D) (k : Nat) (a : L), wl d = some a → k + dep d ≤ 1001 → shorts d = true → wr d k = some a
  | .s w, k, a, h, _, _ => by
    rw [wl] at h
    rw [wr]
    exact h
  | .i z, k, a, h, _, hs => by
    rw [wl] at h
    rw [shorts] at hs
    rw [wr, if_pos hs]
    exact h
  | .t ds, k, a, h, hd, hs => by
    rw [wl] at h
    rw [dep] at hd
    rw [shorts] at hs
    rw [wr, if_pos (by omega)]
    cases e : wls ds with
    | none => rw [e] at h; cases h
    | some l =>
      rw [e] at h
      rw [wrs_of_wls ds (k + 1) l e (by omega) hs]
      exact h
  | .x, k, a, h, _, _ => by rw [wl] at h; cases h
theorem wrs_of_wls : ∀ (ds : List D) (k : Nat) (a : L), wls ds = some a → k + deps ds ≤ 1001 → shortss ds = true → wrs ds k = some a
  | [], k, a, h, _, _ => by rw [wls] at h; rw [wrs]; exact h
  | d :: r, k, a, h, hd, hs => by
    rw [wls] at h
    rw [deps] at hd
    rw [shortss, Bool.and_eq_true] at hs
    rw [wrs]
    cases e : wl d with
    | none => rw [e] at h; cases h
    | some b =>
      rw [e] at h
      rw [wr_of_wl d k b e (by omega) hs.1]
      simp only [Option.bind_some] at h ⊢
      cases r with
      | nil => exact h
      | cons f q =>
        simp only at h ⊢
        cases e2 : wls (f :: q) with
        | none => rw [e2] at h; cases h
        | some c =>
          rw [e2] at h
          rw [wrs_of_wls (f :: q) k c e2 (by omega) hs.2]
          exact h
end
/-! ### the law's reader, sign by sign -/
structure LS where
  rows : List (List D)
  done : List D
  token : L
  ahead : Bool
def ldel (c : Nat) : Bool := c == 91 || c == 93 || c == 44 || c == 59
def atom (p : L) : Option D := if wordOk p = true then some (.s p) else (rdNum p).map .i
def LS.flush (st : LS) : Option LS :=
  if st.token = [] then some st else match atom st.token with
    | none => none
    | some d => if st.ahead = true then some ⟨st.rows, [d], [], false⟩ else none
def LS.branch (st : LS) (c : Nat) : Option LS :=
  if c = 91 then (if st.ahead = true then some ⟨[] :: st.rows, st.done, st.token, st.ahead⟩ else none)
  else if c = 44 then match st.ahead, st.rows, st.done with
    | false, row :: rest, d :: _ => some ⟨(row ++ [d]) :: rest, st.done, st.token, true⟩
    | _, _, _ => none
  else if c = 93 then match st.rows with
    | [] => none
    | row :: rest => if st.ahead = true ∧ row ≠ [] then none else some ⟨rest, [.t (row ++ (if st.ahead = true then [] else st.done.take 1))], st.token, false⟩
  else some st
def LS.step (st : LS) (c : Nat) : Option LS := if ldel c = true then st.flush.bind fun s => s.branch c else some ⟨st.rows, st.done, st.token ++ [c], st.ahead⟩
def LS.run (st : LS) : L → Option LS
  | [] => some st
  | c :: r => (st.step c).bind fun s => s.run r
def lrd (t : L) : Option D := ((⟨[], [], [], true⟩ : LS).run (t ++ [59])).bind fun st => if st.rows = [] ∧ st.ahead = false ∧ 59 ∉ t then st.done.head? else none
theorem lrun_append (st : LS) : ∀ (a b : L), st.run (a ++ b) = (st.run a).bind fun s => s.run b
  | [], b => by simp [LS.run]
  | c :: a, b => by
    rw [List.cons_append, LS.run, LS.run]
    cases st.step c with
    | none => rfl
    | some s => exact lrun_append s a b
theorem run_atom : ∀ (a : L) (st : LS), (∀ c ∈ a, ldel c = false) → st.run a = some ⟨st.rows, st.done, st.token ++ a, st.ahead⟩
  | [], st, _ => by simp [LS.run]
  | c :: a, st, h => by
    rw [LS.run, LS.step, h c (by simp)]
    simp only [Bool.false_eq_true, if_false, Option.bind_some]
    rw [run_atom a _ fun x hx => h x (by simp [hx])]
    simp
theorem delim_ldel {c : Nat} (h : ldel c = true) (h2 : delim c = false) : c = 59 := by
  unfold ldel at h
  unfold delim at h2
  rw [h2, Bool.false_or] at h
  exact eq_of_beq h
theorem word_nl {w : L} (h : wordOk w = true) : ∀ c ∈ w, ldel c = false := fun c hc => by
  have h1 := word_nd h c hc
  unfold ldel
  unfold delim at h1
  rw [h1, Bool.false_or]
  cases w with
  | nil => cases hc
  | cons b r =>
    have h2 : (letter b && ((b :: r).all wsign && decide ((b :: r).length ≤ 12))) = true := h
    simp only [Bool.and_eq_true] at h2
    have h3 := List.all_eq_true.mp h2.2.1 c hc
    rw [beq_eq_false_iff_ne]
    rintro rfl
    revert h3
    decide
theorem num_nl (z : Int) : ∀ c ∈ num z, ldel c = false := fun c hc => by
  have h1 := num_nd z c hc
  unfold ldel
  unfold delim at h1
  rw [h1, Bool.false_or, beq_eq_false_iff_ne]
  rintro rfl
  rcases (num_chars z).2 59 hc with q | q
  · cases q
  · revert q
    decide
/-- an atom, flushed by the delimiter behind it -/
theorem run_flush {a : L} {d : D} {c : Nat} {r : L} {st : LS} (ha : ∀ x ∈ a, ldel x = false) (hn : a ≠ []) (hat : atom a = some d) (hc : ldel c = true) (ht : st.token = []) (hah : st.ahead = true) :
    st.run (a ++ c :: r) = (⟨st.rows, [d], [], false⟩ : LS).run (c :: r) := by
  rw [lrun_append, run_atom a st ha, Option.bind_some, ht, List.nil_append, LS.run, LS.run, LS.step, LS.step, if_pos hc, if_pos hc]
  congr 1
  unfold LS.flush
  simp only [if_neg hn, hat, hah, if_true, Option.bind_some]
mutual
theorem go_wl : ∀ (d : D) (a : L) (c : Nat) (r : L) (st : LS), wl d = some a → ldel c = true → st.token = [] → st.ahead = true → st.run (a ++ c :: r) = (⟨st.rows, [d], [], false⟩ : LS).run (c :: r)
  | .s w, a, c, r, st, h, hc, ht, hah => by
    rw [wl] at h
    split at h
    · rename_i hw
      cases h
      exact run_flush (word_nl hw) (word_ne hw) (by unfold atom; rw [if_pos hw]) hc ht hah
    · cases h
  | .i z, a, c, r, st, h, hc, ht, hah => by
    rw [wl] at h
    cases h
    exact run_flush (num_nl z) (num_chars z).1 (by unfold atom; rw [word_num, rdNum_num]; rfl) hc ht hah
  | .t ds, a, c, r, st, h, hc, ht, hah => by
    rw [wl] at h
    cases e : wls ds with
    | none => rw [e] at h; cases h
    | some l =>
      rw [e] at h
      cases h
      have e1 : (91 :: (l ++ [93])) ++ c :: r = 91 :: (l ++ 93 :: c :: r) := by simp
      rw [e1, LS.run]
      have es : st.step 91 = some ⟨[] :: st.rows, st.done, [], true⟩ := by
        rw [LS.step, if_pos (by rfl)]
        unfold LS.flush
        rw [if_pos ht, Option.bind_some]
        unfold LS.branch
        rw [if_pos rfl, if_pos hah, ht, hah]
      rw [es, Option.bind_some]
      cases ds with
      | nil =>
        rw [wls] at e
        cases e
        rw [List.nil_append, LS.run]
        rfl
      | cons d' r' =>
        have := go_wls (d' :: r') l (c :: r) st.rows st.done [] e (by simp)
        rw [this]
        rfl
  | .x, a, c, r, st, h, _, _, _ => by rw [wl] at h; cases h
/-- items behind a row, the closing bracket next -/
theorem go_wls : ∀ (ds : List D) (l r : L) (rows : List (List D)) (done row : List D), wls ds = some l → ds ≠ [] →
    (⟨row :: rows, done, [], true⟩ : LS).run (l ++ 93 :: r) = (⟨rows, [.t (row ++ ds)], [], false⟩ : LS).run r
  | [], _, _, _, _, _, _, h => absurd rfl h
  | d :: q, l, r, rows, done, row, h, _ => by
    rw [wls] at h
    cases e : wl d with
    | none => rw [e] at h; cases h
    | some a =>
      rw [e] at h
      simp only [Option.bind_some] at h
      cases q with
      | nil =>
        cases h
        rw [go_wl d _ 93 r _ e (by rfl) rfl rfl, LS.run]
        rfl
      | cons f q =>
        simp only at h
        cases e2 : wls (f :: q) with
        | none => rw [e2] at h; cases h
        | some b =>
          rw [e2] at h
          cases h
          have e3 : a ++ 44 :: b ++ 93 :: r = a ++ 44 :: (b ++ 93 :: r) := by simp
          rw [e3, go_wl d a 44 _ _ e (by rfl) rfl rfl, LS.run]
          have es : (⟨row :: rows, [d], [], false⟩ : LS).step 44 = some ⟨(row ++ [d]) :: rows, [d], [], true⟩ := rfl
          rw [es, Option.bind_some, go_wls (f :: q) b r rows [d] (row ++ [d]) e2 (by simp)]
          simp
end
mutual
theorem wl_nl : ∀ (d : D) (a : L), wl d = some a → 59 ∉ a
  | .s w, a, h => by
    rw [wl] at h
    split at h
    · rename_i hw
      cases h
      intro hm
      have := word_nl hw 59 hm
      cases this
    · cases h
  | .i z, a, h => by
    rw [wl] at h
    cases h
    intro hm
    have := num_nl z 59 hm
    cases this
  | .t ds, a, h => by
    rw [wl] at h
    cases e : wls ds with
    | none => rw [e] at h; cases h
    | some l =>
      rw [e] at h
      cases h
      have := wls_nl ds l e
      simp
      exact this
  | .x, a, h => by rw [wl] at h; cases h
theorem wls_nl : ∀ (ds : List D) (a : L), wls ds = some a → 59 ∉ a
  | [], a, h => by rw [wls] at h; cases h; simp
  | d :: r, a, h => by
    rw [wls] at h
    cases e : wl d with
    | none => rw [e] at h; cases h
    | some b =>
      rw [e] at h
      have h1 := wl_nl d b e
      simp only [Option.bind_some] at h
      cases r with
      | nil => cases h; exact h1
      | cons f q =>
        simp only at h
        cases e2 : wls (f :: q) with
        | none => rw [e2] at h; cases h
        | some c =>
          rw [e2] at h
          cases h
          have h2 := wls_nl (f :: q) c e2
          simp
          exact ⟨h1, h2⟩
end
/-- what the law's text tells the law's reader reads -/
theorem lrd_of_wl {d : D} {t : L} (h : wl d = some t) : lrd t = some d := by
  unfold lrd
  rw [go_wl d t 59 [] _ h (by rfl) rfl rfl]
  have e : (⟨[], [d], [], false⟩ : LS).run [59] = some ⟨[], [d], [], false⟩ := rfl
  rw [e, Option.bind_some, if_pos ⟨rfl, rfl, wl_nl d t h⟩]
  rfl
end DM
namespace DM
/-! ### runs and depth of a text -/
def mr : Nat → L → Nat
  | k, [] => k
  | k, c :: r => if ldel c = true then max k (mr 0 r) else mr (k + 1) r
def ns : Nat → L → Nat
  | k, [] => k
  | k, c :: r => if c = 91 then max k (ns (k + 1) r) else if c = 93 then max k (ns (k - 1) r) else ns k r
theorem le_mr : ∀ (r : L) (k : Nat), k ≤ mr k r
  | [], k => Nat.le_refl _
  | c :: r, k => by
    rw [mr]
    split
    · omega
    · have := le_mr r (k + 1)
      omega
theorem mr_add : ∀ (r : L) (j k : Nat), mr (k + j) r ≤ k + mr j r
  | [], j, k => Nat.le_refl _
  | c :: r, j, k => by
    rw [mr, mr]
    split
    · omega
    · have := mr_add r (j + 1) k
      rw [Nat.add_assoc]
      exact this
theorem mr_mono {r : L} {j k : Nat} (h : j ≤ k) : mr j r ≤ mr k r := by
  induction r generalizing j k with
  | nil => exact h
  | cons c r ih =>
    rw [mr, mr]
    split
    · omega
    · exact ih (by omega)
theorem mr_cat : ∀ (a b : L) (k : Nat), mr k (a ++ b) ≤ mr k a + mr 0 b
  | [], b, k => mr_add b 0 k
  | c :: a, b, k => by
    rw [List.cons_append, mr, mr]
    split
    · have := mr_cat a b 0
      omega
    · exact mr_cat a b (k + 1)
theorem mr_pre : ∀ (a b : L) (k : Nat), mr k a ≤ mr k (a ++ b)
  | [], b, k => le_mr b k
  | c :: a, b, k => by
    rw [List.cons_append, mr, mr]
    split
    · have := mr_pre a b 0
      omega
    · exact mr_pre a b (k + 1)
theorem mr_suf : ∀ (a b : L) (k : Nat), mr 0 b ≤ mr k (a ++ b)
  | [], b, k => mr_mono (Nat.zero_le k)
  | c :: a, b, k => by
    rw [List.cons_append, mr]
    split
    · have := mr_suf a b 0
      omega
    · exact mr_suf a b (k + 1)
theorem mr_del {c : Nat} (h : ldel c = true) : ∀ (a r : L) (k : Nat), mr k (a ++ c :: r) = max (mr k a) (mr 0 r)
  | [], r, k => by simp [mr, h]
  | b :: a, r, k => by
    rw [List.cons_append, mr, mr]
    split
    · rw [mr_del h a r 0]
      omega
    · exact mr_del h a r (k + 1)
theorem mr_no : ∀ (a : L) (k : Nat), (∀ c ∈ a, ldel c = false) → mr k a = k + a.length
  | [], k, _ => rfl
  | c :: a, k, h => by
    rw [mr, h c (by simp)]
    simp only [Bool.false_eq_true, if_false]
    rw [mr_no a (k + 1) fun x hx => h x (by simp [hx])]
    simp
    omega
theorem le_ns : ∀ (r : L) (k : Nat), k ≤ ns k r
  | [], k => Nat.le_refl _
  | c :: r, k => by
    rw [ns]
    split
    · omega
    · split
      · omega
      · exact le_ns r k
theorem ns_mono {r : L} {j k : Nat} (h : j ≤ k) : ns j r ≤ ns k r := by
  induction r generalizing j k with
  | nil => exact h
  | cons c r ih =>
    rw [ns, ns]
    split
    · have := @ih (j + 1) (k + 1) (by omega)
      omega
    · split
      · have := @ih (j - 1) (k - 1) (by omega)
        omega
      · exact ih h
theorem ns_add : ∀ (r : L) (j k : Nat), ns (k + j) r ≤ ns k r + j
  | [], j, k => Nat.le_refl _
  | c :: r, j, k => by
    rw [ns, ns]
    split
    · have := ns_add r j (k + 1)
      have e : k + 1 + j = k + j + 1 := by omega
      rw [e] at this
      omega
    · split
      · have := ns_add r j (k - 1)
        have h2 : ns (k + j - 1) r ≤ ns (k - 1 + j) r := ns_mono (by omega)
        omega
      · exact ns_add r j k
def fin : Nat → L → Nat
  | k, [] => k
  | k, c :: r => if c = 91 then fin (k + 1) r else if c = 93 then fin (k - 1) r else fin k r
theorem ns_cat : ∀ (a b : L) (k : Nat), ns k (a ++ b) = max (ns k a) (ns (fin k a) b)
  | [], b, k => by
    have := le_ns b k
    rw [List.nil_append, ns, fin]
    omega
  | c :: a, b, k => by
    rw [List.cons_append, ns, ns, fin]
    split
    · rw [ns_cat a b (k + 1)]
      omega
    · split
      · rw [ns_cat a b (k - 1)]
        omega
      · exact ns_cat a b k
theorem fin_cat : ∀ (a b : L) (k : Nat), fin k (a ++ b) = fin (fin k a) b
  | [], b, k => rfl
  | c :: a, b, k => by
    rw [List.cons_append, fin, fin]
    split
    · exact fin_cat a b _
    · split
      · exact fin_cat a b _
      · exact fin_cat a b _
theorem ns_up (f c : Nat) (s : L) : ns f (c :: s) ≤ ns (f + 1) s := by
  have h1 := le_ns s (f + 1)
  have h2 : ns (f - 1) s ≤ ns (f + 1) s := ns_mono (by omega)
  have h3 : ns f s ≤ ns (f + 1) s := ns_mono (by omega)
  rw [ns]
  split
  · omega
  · split <;> omega
theorem ns_dn (f c : Nat) (s : L) : ns (f - 1) s ≤ ns f (c :: s) := by
  have h2 : ns (f - 1) s ≤ ns (f + 1) s := ns_mono (by omega)
  have h3 : ns (f - 1) s ≤ ns f s := ns_mono (by omega)
  rw [ns]
  split
  · omega
  · split <;> omega
/-- one sign put in, taken away, put for another -/
theorem edit_ns {t : L} (i c : Nat) : ns 0 (t.take i ++ [c] ++ t.drop i) ≤ ns 0 t + 2 ∧ ns 0 (t.take i ++ t.drop (i + 1)) ≤ ns 0 t + 2 ∧ ns 0 (t.take i ++ [c] ++ t.drop (i + 1)) ≤ ns 0 t + 2 := by
  have e : ns 0 t = max (ns 0 (t.take i)) (ns (fin 0 (t.take i)) (t.drop i)) := by
    rw [← ns_cat, List.take_append_drop]
  have eA : ∀ s : L, ns 0 (t.take i ++ [c] ++ s) = max (ns 0 (t.take i)) (ns (fin 0 (t.take i)) (c :: s)) := fun s => by
    rw [List.append_assoc, ns_cat]
    rfl
  rw [eA, eA, ns_cat, e]
  generalize fin 0 (t.take i) = f
  have h1 := ns_up f c (t.drop i)
  have h2 := ns_add (t.drop i) 1 f
  have h3 := ns_up f c (t.drop (i + 1))
  cases hd : t.drop i with
  | nil =>
    have hd2 : t.drop (i + 1) = [] := by rw [← List.drop_drop, hd]; rfl
    rw [hd] at h1 h2
    rw [hd2] at h3 ⊢
    have h4 : ns (f + 1) [] = f + 1 := rfl
    have h5 : ns f [] = f := rfl
    omega
  | cons x s =>
    have hd2 : t.drop (i + 1) = s := by rw [← List.drop_drop, hd]; rfl
    rw [hd] at h1 h2
    rw [hd2] at h3 ⊢
    have h4 := ns_dn f x s
    have h5 := ns_add s 2 (f - 1)
    have h6 : ns (f + 1) s ≤ ns (f - 1 + 2) s := ns_mono (by omega)
    have h7 : ns f s ≤ ns (f + 1) s := ns_mono (by omega)
    omega
theorem edit_mr {t : L} (i c : Nat) : mr 0 (t.take i ++ [c] ++ t.drop i) ≤ 2 * mr 0 t + 1 ∧ mr 0 (t.take i ++ t.drop (i + 1)) ≤ 2 * mr 0 t + 1 ∧ mr 0 (t.take i ++ [c] ++ t.drop (i + 1)) ≤ 2 * mr 0 t + 1 := by
  have h1 : mr 0 (t.take i) ≤ mr 0 t := by
    have := mr_pre (t.take i) (t.drop i) 0
    rw [List.take_append_drop] at this
    exact this
  have hs : ∀ j, mr 0 (t.drop j) ≤ mr 0 t := fun j => by
    have := mr_suf (t.take j) (t.drop j) 0
    rw [List.take_append_drop] at this
    exact this
  have h2 := hs i
  have h3 := hs (i + 1)
  have hc : mr 0 [c] ≤ 1 := by
    rw [mr]
    split
    · exact Nat.zero_le _
    · exact Nat.le_refl _
  have a1 := mr_cat (t.take i ++ [c]) (t.drop i) 0
  have a2 := mr_cat (t.take i) [c] 0
  have a3 := mr_cat (t.take i) (t.drop (i + 1)) 0
  have a4 := mr_cat (t.take i ++ [c]) (t.drop (i + 1)) 0
  omega
/-! ### what the law's reader hands back is not deep, its numbers are short -/
def good (M h : Nat) (d : D) : Prop := dep d + h ≤ M ∧ shorts d = true
def rg (M : Nat) : List (List D) → Prop
  | [] => True
  | row :: rest => (∀ d ∈ row, good M (rest.length + 1) d) ∧ rg M rest
structure LGood (M : Nat) (st : LS) (r : L) : Prop where
  rows : rg M st.rows
  done : st.ahead = false → ∃ x, st.done = [x] ∧ good M st.rows.length x
  mr : mr st.token.length r ≤ 4000
  ns : ns st.rows.length r ≤ M
theorem atom_good {p : L} {d : D} {M h : Nat} (hp : p.length ≤ 4000) (hh : h ≤ M) (e : atom p = some d) : good M h d := by
  unfold atom at e
  split at e
  · cases e
    exact ⟨by rw [dep]; omega, by rw [shorts]⟩
  · cases hz : rdNum p with
    | none => rw [hz] at e; cases e
    | some z =>
      rw [hz] at e
      cases e
      refine ⟨by rw [dep]; omega, ?_⟩
      rw [shorts]
      refine short_of ?_ hz
      unfold bodyLen bodyOf
      split
      · rw [List.length_tail]; omega
      · exact hp
theorem flush_good {M : Nat} {st st' : LS} {r : L} {c : Nat} (hc : ldel c = true) (g : LGood M st (c :: r)) (h : st.flush = some st') : LGood M st' (c :: r) ∧ st'.token = [] ∧ st'.rows = st.rows := by
  unfold LS.flush at h
  split at h
  · rename_i ht
    cases h
    exact ⟨g, ht, rfl⟩
  · split at h
    · cases h
    · rename_i d hd
      split at h
      · cases h
        have hl := Nat.le_trans (le_mr (c :: r) st.token.length) g.mr
        refine ⟨⟨g.rows, fun _ => ⟨d, rfl, atom_good hl (Nat.le_trans (le_ns _ _) g.ns) hd⟩, Nat.le_trans (mr_mono (Nat.zero_le _)) g.mr, g.ns⟩, rfl, rfl⟩
      · cases h
theorem deps_le {M : Nat} : ∀ {ds : List D}, (∀ d ∈ ds, dep d ≤ M) → deps ds ≤ M
  | [], _ => Nat.zero_le _
  | d :: r, h => by
    rw [deps]
    have h1 := h d (by simp)
    have h2 := deps_le (ds := r) fun e he => h e (by simp [he])
    omega
theorem shortss_of : ∀ {ds : List D}, (∀ d ∈ ds, shorts d = true) → shortss ds = true
  | [], _ => by rw [shortss]
  | d :: r, h => by
    rw [shortss, h d (by simp), shortss_of fun e he => h e (by simp [he])]
    rfl
theorem branch_good {M : Nat} {st st' : LS} {r : L} {c : Nat} (hc : ldel c = true) (ht : st.token = []) (g : LGood M st (c :: r)) (h : st.branch c = some st') : LGood M st' r := by
  obtain ⟨g1, g2, g3, g4⟩ := g
  rw [mr, if_pos hc] at g3
  rw [ns] at g4
  unfold LS.branch at h
  split at h
  · rename_i h91
    subst h91
    rw [if_pos rfl] at g4
    split at h
    · rename_i hah
      cases h
      refine ⟨⟨fun d hd => (by cases hd), g1⟩, fun q => ?_, ?_, ?_⟩
      · rw [hah] at q
        cases q
      · show mr st.token.length r ≤ 4000
        rw [ht]
        exact Nat.le_trans (Nat.le_max_right _ _) g3
      · show ns (st.rows.length + 1) r ≤ M
        omega
    · cases h
  · rename_i h91
    rw [if_neg h91] at g4
    split at h
    · rename_i h44
      subst h44
      rw [if_neg (by decide)] at g4
      split at h
      · rename_i row rest d tl e1 e2 e3
        cases h
        obtain ⟨x, hx, hg⟩ := g2 e1
        rw [e3] at hx
        cases hx
        rw [e2] at g1 hg g4
        refine ⟨⟨fun e he => ?_, g1.2⟩, fun q => (by cases q), ?_, g4⟩
        · rcases List.mem_append.mp he with q | q
          · exact g1.1 e q
          · rw [List.mem_singleton.mp q]
            exact hg
        · show mr st.token.length r ≤ 4000
          rw [ht]
          exact Nat.le_trans (Nat.le_max_right _ _) g3
      · cases h
    · rename_i h44
      split at h
      · rename_i h93
        subst h93
        rw [if_pos rfl] at g4
        split at h
        · cases h
        · rename_i row rest e1
          split at h
          · cases h
          · cases h
            rw [e1] at g1 g4
            have hall : ∀ e ∈ row ++ (if st.ahead = true then [] else st.done.take 1), good M (rest.length + 1) e := fun e he => by
              rcases List.mem_append.mp he with q | q
              · exact g1.1 e q
              · split at q
                · cases q
                · rename_i hah
                  obtain ⟨x, hx, hg⟩ := g2 (by simpa using hah)
                  rw [hx] at q
                  rw [e1] at hg
                  rw [List.mem_singleton.mp q]
                  exact hg
            refine ⟨g1.2, fun _ => ⟨_, rfl, ?_, ?_⟩, ?_, ?_⟩
            · show dep (.t _) + rest.length ≤ M
              rw [dep]
              have hk : rest.length + 1 ≤ M := by
                have : rest.length + 1 ≤ max (row :: rest).length (ns ((row :: rest).length - 1) r) := Nat.le_max_left _ _
                omega
              have := deps_le (M := M - (rest.length + 1)) (ds := row ++ (if st.ahead = true then [] else st.done.take 1)) fun e he => by
                have := (hall e he).1
                omega
              omega
            · rw [shorts]
              exact shortss_of fun e he => (hall e he).2
            · show mr st.token.length r ≤ 4000
              rw [ht]
              exact Nat.le_trans (Nat.le_max_right _ _) g3
            · show ns rest.length r ≤ M
              have : (row :: rest).length - 1 = rest.length := rfl
              rw [this] at g4
              omega
      · rename_i h93
        cases h
        rw [if_neg h93] at g4
        refine ⟨g1, g2, ?_, g4⟩
        rw [ht]
        exact Nat.le_trans (Nat.le_max_right _ _) g3
theorem step_good {M : Nat} {st st' : LS} {r : L} {c : Nat} (g : LGood M st (c :: r)) (h : st.step c = some st') : LGood M st' r := by
  unfold LS.step at h
  split at h
  · rename_i hc
    cases hf : st.flush with
    | none => rw [hf] at h; cases h
    | some s =>
      rw [hf] at h
      obtain ⟨g1, t1, _⟩ := flush_good hc g hf
      exact branch_good hc t1 g1 h
  · rename_i hc
    cases h
    obtain ⟨g1, g2, g3, g4⟩ := g
    rw [mr, if_neg hc] at g3
    have h1 : c ≠ 91 := fun e => hc (by rw [e]; rfl)
    have h2 : c ≠ 93 := fun e => hc (by rw [e]; rfl)
    rw [ns, if_neg h1, if_neg h2] at g4
    refine ⟨g1, g2, ?_, g4⟩
    show mr (st.token ++ [c]).length r ≤ 4000
    rw [List.length_append]
    exact g3
theorem run_good {M : Nat} : ∀ (t r : L) (st st' : LS), LGood M st (t ++ r) → st.run t = some st' → LGood M st' r
  | [], r, st, st', g, h => by
    rw [LS.run] at h
    cases h
    exact g
  | c :: t, r, st, st', g, h => by
    rw [LS.run] at h
    cases hs : st.step c with
    | none => rw [hs] at h; cases h
    | some s =>
      rw [hs] at h
      exact run_good t r s st' (step_good g hs) h
theorem lgood0 {t : L} (hm : mr 0 t ≤ 4000) : LGood (ns 0 t) ⟨[], [], [], true⟩ (t ++ [59]) := by
  refine ⟨True.intro, fun q => (by cases q), ?_, ?_⟩
  · show mr 0 (t ++ [59]) ≤ 4000
    rw [mr_del (by rfl)]
    have : mr 0 [] = 0 := rfl
    omega
  · show ns 0 (t ++ [59]) ≤ ns 0 t
    rw [ns_cat]
    have h1 : ns (fin 0 t) [59] = fin 0 t := rfl
    have h2 : ∀ (a : L) (k : Nat), fin k a ≤ ns k a := by
      intro a
      induction a with
      | nil => intro k; exact Nat.le_refl _
      | cons c r ih =>
        intro k
        rw [fin, ns]
        split
        · have := ih (k + 1); omega
        · split
          · have := ih (k - 1); omega
          · exact ih k
    have := h2 t 0
    omega
theorem lrd_good {t : L} {d : D} (h : lrd t = some d) (hm : mr 0 t ≤ 4000) : dep d ≤ ns 0 t ∧ shorts d = true := by
  unfold lrd at h
  cases hr : (⟨[], [], [], true⟩ : LS).run (t ++ [59]) with
  | none => rw [hr] at h; cases h
  | some st =>
    rw [hr, Option.bind_some] at h
    split at h
    · rename_i hc
      have g := run_good (t ++ [59]) [] _ _ (by rw [List.append_nil]; exact lgood0 hm) hr
      obtain ⟨x, hx, hg⟩ := g.done hc.2.1
      rw [hx] at h
      cases h
      refine ⟨?_, hg.2⟩
      have := hg.1
      rw [hc.1] at this
      simpa using this
    · cases h
/-- the law's check: the program reads what the law reads and writes again -/
theorem rd_law {t : L} (hm : mr 0 t ≤ 4000) (hn : ns 0 t ≤ 1000) : rd t = (lrd t).bind fun d => if wl d = some t then some d else none := by
  cases h : rd t with
  | some d =>
    have h1 := wl_of_wr d 1 t (wr_of_rd h)
    rw [lrd_of_wl h1, Option.bind_some, if_pos h1]
  | none =>
    cases h2 : lrd t with
    | none => rfl
    | some d =>
      rw [Option.bind_some]
      split
      · rename_i h3
        obtain ⟨g1, g2⟩ := lrd_good h2 hm
        have := rd_of_wr (wr_of_wl d 1 t h3 (by omega) g2)
        rw [h] at this
        cases this
      · rfl
end DM
namespace DM
/-! ### the law's data -/
def atomW (w : L) : Prop := w = [97, 98, 122, 57] ∨ w = [98, 122, 57] ∨ w = [122, 57] ∨ w = [97, 50, 51, 52, 53, 54, 55, 56, 57, 48, 49, 50]
def atomI (z : Int) : Prop := z = 0 ∨ z = -1 ∨ z = 7 ∨ z = 10 ^ 40 ∨ z = -(10 ^ 20) ∨ z = 1000
def gen : Nat → D → Prop
  | _, .s w => atomW w
  | _, .i z => atomI z
  | n + 1, .t ds => ds.length ≤ 3 ∧ ∀ d ∈ ds, gen n d
  | _, _ => False
def tlen : Nat → Nat
  | 0 => 41
  | n + 1 => 3 * tlen n + 5
theorem atomW_ok {w : L} (h : atomW w) : wordOk w = true ∧ w.length ≤ 12 := by
  rcases h with rfl | rfl | rfl | rfl <;> exact ⟨by rfl, by decide⟩
theorem num40 : num (10 ^ 40) = 49 :: List.replicate 40 48 := by
  refine num_rdNum ?_
  decide +kernel
theorem num20 : num (-(10 ^ 20)) = 45 :: 49 :: List.replicate 20 48 := by
  refine num_rdNum ?_
  decide +kernel
theorem atomI_ok {z : Int} (h : atomI z) : (num z).length ≤ 41 ∧ short z = true := by
  have hs : ∀ z : Int, z.natAbs < 10 ^ 41 → short z = true := fun z hz => short_iff.mpr (Nat.lt_of_lt_of_le hz (Nat.pow_le_pow_right (by decide) (by decide)))
  rcases h with rfl | rfl | rfl | rfl | rfl | rfl
  · exact ⟨by decide, hs _ (by decide)⟩
  · exact ⟨by decide, hs _ (by decide)⟩
  · exact ⟨by decide, hs _ (by decide)⟩
  · exact ⟨by rw [num40]; decide, hs _ (by decide)⟩
  · exact ⟨by rw [num20]; decide, hs _ (by decide)⟩
  · exact ⟨by decide, hs _ (by decide)⟩
structure Txt (n : Nat) (d : D) (a : L) : Prop where
  wl : wl d = some a
  len : a.length ≤ tlen n
  mr : mr 0 a ≤ 41
  dep : dep d ≤ n
  short : shorts d = true
theorem tlen_mono : ∀ n, 41 ≤ tlen n
  | 0 => Nat.le_refl _
  | n + 1 => by
    have := tlen_mono n
    rw [tlen]
    omega
theorem gens_txt {n : Nat} (ih : ∀ d, gen n d → ∃ a, Txt n d a) : ∀ ds : List D, ds.length ≤ 3 → (∀ d ∈ ds, gen n d) →
    ∃ l, wls ds = some l ∧ l.length + 1 ≤ ds.length * (tlen n + 1) + 1 ∧ mr 0 l ≤ 41 ∧ deps ds ≤ n ∧ shortss ds = true
  | [], _, _ => ⟨[], by rw [wls], by simp, by decide, by rw [deps]; omega, by rw [shortss]⟩
  | d :: r, hl, h => by
    obtain ⟨a, ha⟩ := ih d (h d (by simp))
    obtain ⟨l, h1, h2, h3, h4, h5⟩ := gens_txt ih r (by simp at hl; omega) fun e he => h e (by simp [he])
    have e5 : deps (d :: r) ≤ n := by
      rw [deps]
      have := ha.dep
      omega
    have e6 : shortss (d :: r) = true := by rw [shortss, ha.short, h5]; rfl
    cases r with
    | nil =>
      refine ⟨a, ?_, ?_, ha.mr, e5, e6⟩
      · rw [wls, ha.wl]
        rfl
      · have := ha.len
        simp
        omega
    | cons f q =>
      refine ⟨a ++ 44 :: l, ?_, ?_, ?_, e5, e6⟩
      · rw [wls, ha.wl]
        simp only [Option.bind_some]
        rw [h1]
        rfl
      · have := ha.len
        simp only [List.length_append, List.length_cons] at h2 ⊢
        have e : (q.length + 1 + 1) * (tlen n + 1) = (q.length + 1) * (tlen n + 1) + (tlen n + 1) := Nat.succ_mul ..
        omega
      · rw [mr_del (by rfl)]
        have := ha.mr
        omega
theorem gen_txt : ∀ (n : Nat) (d : D), gen n d → ∃ a, Txt n d a
  | n, .s w, h => by
    have hw : atomW w := by cases n <;> exact h
    obtain ⟨h1, h2⟩ := atomW_ok hw
    have := tlen_mono n
    refine ⟨w, by rw [wl, if_pos h1], by omega, ?_, by rw [dep]; omega, by rw [shorts]⟩
    rw [mr_no w 0 (word_nl h1)]
    omega
  | n, .i z, h => by
    have hz : atomI z := by cases n <;> exact h
    obtain ⟨h1, h2⟩ := atomI_ok hz
    have := tlen_mono n
    refine ⟨num z, by rw [wl], by omega, ?_, by rw [dep]; omega, by rw [shorts, h2]⟩
    rw [mr_no _ 0 (num_nl z)]
    omega
  | 0, .t ds, h => by cases h
  | n + 1, .t ds, h => by
    obtain ⟨h0, h⟩ : ds.length ≤ 3 ∧ ∀ d ∈ ds, gen n d := h
    obtain ⟨l, h1, h2, h3, h4, h5⟩ := gens_txt (gen_txt n) ds h0 h
    refine ⟨91 :: (l ++ [93]), by rw [wl, h1]; rfl, ?_, ?_, by rw [dep]; omega, by rw [shorts, h5]⟩
    · rw [tlen]
      simp only [List.length_cons, List.length_append, List.length_nil]
      have := Nat.mul_le_mul_right (tlen n + 1) h0
      omega
    · rw [mr, if_pos (by rfl), mr_del (by rfl)]
      have : mr 0 [] = 0 := rfl
      omega
  | n, .x, h => by cases n <;> cases h
mutual
theorem ns_wl : ∀ (d : D) (a : L) (k : Nat), wl d = some a → fin k a = k ∧ ns k a ≤ k + dep d
  | .s w, a, k, h => by
    rw [wl] at h
    split at h
    · rename_i hw
      cases h
      exact flatB (word_nl hw) k
    · cases h
  | .i z, a, k, h => by
    rw [wl] at h
    cases h
    exact flatB (num_nl z) k
  | .t ds, a, k, h => by
    rw [wl] at h
    cases e : wls ds with
    | none => rw [e] at h; cases h
    | some l =>
      rw [e] at h
      cases h
      obtain ⟨h1, h2⟩ := ns_wls ds l (k + 1) e
      constructor
      · rw [fin, if_pos rfl, fin_cat, h1]
        rfl
      · rw [ns, if_pos rfl, ns_cat, h1, dep]
        have e1 : ns (k + 1) [93] = max (k + 1) k := rfl
        rw [e1]
        omega
  | .x, a, k, h => by rw [wl] at h; cases h
theorem ns_wls : ∀ (ds : List D) (a : L) (k : Nat), wls ds = some a → fin k a = k ∧ ns k a ≤ k + deps ds
  | [], a, k, h => by
    rw [wls] at h
    cases h
    exact ⟨rfl, Nat.le_add_right ..⟩
  | d :: r, a, k, h => by
    rw [wls] at h
    cases e : wl d with
    | none => rw [e] at h; cases h
    | some b =>
      rw [e] at h
      obtain ⟨h1, h2⟩ := ns_wl d b k e
      simp only [Option.bind_some] at h
      rw [deps]
      cases r with
      | nil =>
        cases h
        exact ⟨h1, by omega⟩
      | cons f q =>
        simp only at h
        cases e2 : wls (f :: q) with
        | none => rw [e2] at h; cases h
        | some c =>
          rw [e2] at h
          cases h
          obtain ⟨h3, h4⟩ := ns_wls (f :: q) c k e2
          constructor
          · rw [fin_cat, h1, fin, if_neg (by decide), if_neg (by decide)]
            exact h3
          · rw [ns_cat, h1, ns, if_neg (by decide), if_neg (by decide)]
            omega
theorem flatB {a : L} (h : ∀ c ∈ a, ldel c = false) (k : Nat) : fin k a = k ∧ ns k a ≤ k + 0 := by
  induction a with
  | nil => exact ⟨rfl, Nat.le_refl _⟩
  | cons c r ih =>
    have hc := h c (by simp)
    have h1 : c ≠ 91 := fun e => by rw [e] at hc; cases hc
    have h2 : c ≠ 93 := fun e => by rw [e] at hc; cases hc
    rw [fin, ns, if_neg h1, if_neg h2, if_neg h1, if_neg h2]
    exact ih fun x hx => h x (by simp [hx])
end
/-! ### the deep ones -/
def nest : Nat → D
  | 0 => .t []
  | n + 1 => .t [nest n]
theorem wl_nest : ∀ n, wl (nest n) = some (List.replicate (n + 1) 91 ++ List.replicate (n + 1) 93)
  | 0 => by rw [nest, wl, wls]; rfl
  | n + 1 => by
    rw [nest, wl, wls, wl_nest n]
    simp only [Option.bind_some, Option.map_some, Option.some.injEq]
    rw [List.replicate_succ (n := n + 1), List.replicate_succ' (n := n + 1) (a := 93)]
    simp
theorem dep_nest : ∀ n, dep (nest n) = n + 1
  | 0 => by rw [nest, dep, deps]
  | n + 1 => by
    rw [nest, dep, deps, deps, dep_nest n]
    omega
theorem shorts_nest : ∀ n, shorts (nest n) = true
  | 0 => by rw [nest, shorts, shortss]
  | n + 1 => by rw [nest, shorts, shortss, shortss, shorts_nest n]; rfl
theorem wr_deep : ∀ (n k : Nat), 1000 < n + k → wr (nest n) k = none
  | 0, k, h => by rw [nest, wr, if_neg (by omega)]
  | n + 1, k, h => by
    rw [nest, wr]
    split
    · rw [wrs, wr_deep n (k + 1) (by omega)]
      rfl
    · rfl
theorem wr_nest999 : wr (nest 999) 1 = some (List.replicate 1000 91 ++ List.replicate 1000 93) :=
  wr_of_wl _ _ _ (wl_nest 999) (by rw [dep_nest]; omega) (shorts_nest _)
theorem rd_none_of {d : D} {t : L} (h : wl d = some t) (hw : wr d 1 = none) : rd t = none := by
  cases e : rd t with
  | none => rfl
  | some d' =>
    have h1 := wr_of_rd e
    have h2 := lrd_of_wl (wl_of_wr d' 1 t h1)
    rw [lrd_of_wl h] at h2
    cases h2
    rw [hw] at h1
    cases h1
theorem rd_1001 : rd (List.replicate 1001 91 ++ List.replicate 1001 93) = none := rd_none_of (wl_nest 1000) (wr_deep 1000 1 (by omega))
theorem rd_1000 : rd (List.replicate 1000 91 ++ List.replicate 1000 93) = some (nest 999) := rd_of_wr wr_nest999
/-! ### the long ones -/
abbrev nines : L := List.replicate 4000 57
theorem nines_cons : nines = 57 :: List.replicate 3999 57 := List.replicate_succ
theorem nines_head : nines.head? = some 57 := by rw [nines_cons]; rfl
theorem all_rep (n : Nat) : (List.replicate n 57).all digit = true := by
  rw [List.all_eq_true]
  intro x hx
  rw [(List.mem_replicate.mp hx).2]
  rfl
theorem rdN {p : L} (h : p ≠ []) (ha : p.all digit = true) (h0 : p.head? = some 57) : rdNum p = some ((val p : Nat) : Int) := by
  have h45 : p.head? ≠ some 45 := by rw [h0]; decide
  unfold rdNum
  rw [body_pos h45, if_neg (by
    rintro (q | q | q)
    · exact h q
    · exact q ha
    · rw [h0] at q
      exact absurd q.1 (by decide)), if_neg h45]
theorem val9 : ∀ n, val (List.replicate n 57) + 1 = 10 ^ n
  | 0 => rfl
  | n + 1 => by
    rw [List.replicate_succ', val_snoc, Nat.pow_succ, ← val9 n]
    omega
def big : Int := ((val nines : Nat) : Int)
theorem rd_big : rdNum nines = some big := rdN (by rw [nines, List.replicate_succ]; exact List.cons_ne_nil _ _) (all_rep _) nines_head
theorem short_big : short big = true := short_of (by
  have : bodyLen nines = nines.length := by
    unfold bodyLen
    rw [body_pos (by rw [nines_head]; decide)]
  rw [this, nines, List.length_replicate]
  exact Nat.le_refl _) rd_big
theorem wr_big : wr (.i big) 1 = some nines := by rw [wr, if_pos short_big, num_rdNum rd_big]
theorem wr_big1 : wr (.i (big + 1)) 1 = none := by
  rw [wr, if_neg]
  intro h
  have h1 := short_iff.mp h
  have h2 : (big + 1).natAbs = 10 ^ 4000 := by
    have := val9 4000
    rw [← this]
    rfl
  omega
theorem rd_neg : ∃ z, rd (45 :: nines) = some (.i z) := by
  have h : ∃ z, rdNum (45 :: nines) = some z := by
    unfold rdNum
    rw [body_neg, if_neg (by
      rintro (q | q | q)
      · rw [nines, List.replicate_succ] at q; cases q
      · exact q (all_rep _)
      · rw [nines_head] at q
        exact absurd q.1 (by decide))]
    exact ⟨_, rfl⟩
  obtain ⟨z, hz⟩ := h
  refine ⟨z, rd_of_wr ?_⟩
  rw [wr, if_pos (short_of (by unfold bodyLen; rw [body_neg, nines, List.length_replicate]; exact Nat.le_refl _) hz), num_rdNum hz]
theorem rd_long : rd (nines ++ [48]) = none := by
  have h0 : nines ++ [48] ≠ [] := by simp
  have h1 : (nines ++ [48]).all digit = true := by rw [List.all_append, all_rep]; rfl
  have h2 : (nines ++ [48]).head? = some 57 := by rw [nines_cons]; rfl
  have hz := rdN h0 h1 h2
  have hn := num_rdNum hz
  refine rd_none_of (d := .i ((val (nines ++ [48]) : Nat) : Int)) (by rw [wl, hn]) ?_
  rw [wr, if_neg]
  intro hs
  have h3 := bodyLen_num hs
  rw [hn] at h3
  unfold bodyLen at h3
  rw [body_pos (by rw [h2]; decide), List.length_append, nines, List.length_replicate] at h3
  simp at h3
end DM
namespace DM
/-! ### sizes -/
mutual
def dsz : D → Nat
  | .t ds => 2 + dszs ds
  | .s w => 1 + w.length
  | .i z => 1 + (num z).length
  | .x => 1
def dszs : List D → Nat
  | [] => 0
  | d :: r => 1 + dsz d + dszs r
end
mutual
theorem wl_len : ∀ (d : D) (a : L), wl d = some a → a.length ≤ dsz d
  | .s w, a, h => by
    rw [wl] at h
    rw [dsz]
    split at h
    · cases h; omega
    · cases h
  | .i z, a, h => by
    rw [wl] at h
    rw [dsz]
    cases h
    omega
  | .t ds, a, h => by
    rw [wl] at h
    rw [dsz]
    cases e : wls ds with
    | none => rw [e] at h; cases h
    | some l =>
      rw [e] at h
      cases h
      have := wls_len ds l e
      simp
      omega
  | .x, a, h => by rw [wl] at h; cases h
theorem wls_len : ∀ (ds : List D) (a : L), wls ds = some a → a.length ≤ dszs ds
  | [], a, h => by rw [wls] at h; cases h; exact Nat.zero_le _
  | d :: r, a, h => by
    rw [wls] at h
    rw [dszs]
    cases e : wl d with
    | none => rw [e] at h; cases h
    | some b =>
      rw [e] at h
      have h1 := wl_len d b e
      simp only [Option.bind_some] at h
      cases r with
      | nil => cases h; omega
      | cons f q =>
        simp only at h
        cases e2 : wls (f :: q) with
        | none => rw [e2] at h; cases h
        | some c =>
          rw [e2] at h
          cases h
          have h2 := wls_len (f :: q) c e2
          simp
          omega
end
theorem dszs_cat : ∀ (a b : List D), dszs (a ++ b) = dszs a + dszs b
  | [], b => by rw [dszs, List.nil_append]; omega
  | d :: a, b => by
    rw [List.cons_append, dszs, dszs, dszs_cat a b]
    omega
theorem dszs_len : ∀ ds : List D, ds.length ≤ dszs ds
  | [] => Nat.zero_le _
  | d :: r => by
    have := dszs_len r
    rw [dszs, List.length_cons]
    omega
theorem dsz_mem {d : D} : ∀ {ds : List D}, d ∈ ds → dsz d + 1 ≤ dszs ds
  | e :: r, h => by
    rw [dszs]
    rcases List.mem_cons.mp h with q | q
    · rw [q]; omega
    · have := dsz_mem q
      omega
def gsz : Nat → Nat
  | 0 => 43
  | n + 1 => 3 * gsz n + 5
theorem gsz_mono : ∀ n, 43 ≤ gsz n
  | 0 => Nat.le_refl _
  | n + 1 => by
    have := gsz_mono n
    rw [gsz]
    omega
theorem gens_sz {n : Nat} (ih : ∀ d, gen n d → dsz d ≤ gsz n) : ∀ ds : List D, (∀ d ∈ ds, gen n d) → dszs ds ≤ ds.length * (gsz n + 1)
  | [], _ => by rw [dszs]; exact Nat.zero_le _
  | d :: r, h => by
    have h1 := ih d (h d (by simp))
    have h2 := gens_sz ih r fun e he => h e (by simp [he])
    rw [dszs, List.length_cons, Nat.succ_mul]
    omega
theorem gen_sz : ∀ (n : Nat) (d : D), gen n d → dsz d ≤ gsz n
  | n, .s w, h => by
    have hw : atomW w := by cases n <;> exact h
    have := (atomW_ok hw).2
    have := gsz_mono n
    rw [dsz]
    omega
  | n, .i z, h => by
    have hz : atomI z := by cases n <;> exact h
    have := (atomI_ok hz).1
    have := gsz_mono n
    rw [dsz]
    omega
  | 0, .t ds, h => by cases h
  | n + 1, .t ds, h => by
    obtain ⟨h0, h⟩ : ds.length ≤ 3 ∧ ∀ d ∈ ds, gen n d := h
    have h2 := gens_sz (gen_sz n) ds h
    have := Nat.mul_le_mul_right (gsz n + 1) h0
    rw [dsz, gsz]
    omega
  | n, .x, h => by cases n <;> cases h
theorem gen_good {n : Nat} {d : D} (h : gen n d) : dep d ≤ n ∧ shorts d = true := by
  obtain ⟨a, ha⟩ := gen_txt n d h
  exact ⟨ha.dep, ha.short⟩
/-! ### the size of what the law's reader has -/
def rsz : List (List D) → Nat
  | [] => 0
  | row :: r => 2 + dszs row + rsz r
def ssz (st : LS) : Nat := rsz st.rows + (if st.ahead = true then 0 else dszs (st.done.take 1)) + st.token.length
theorem atom_sz {p : L} {d : D} (e : atom p = some d) : dsz d ≤ 1 + p.length := by
  unfold atom at e
  split at e
  · cases e
    rw [dsz]
    omega
  · cases hz : rdNum p with
    | none => rw [hz] at e; cases e
    | some z =>
      rw [hz] at e
      cases e
      rw [dsz, num_rdNum hz]
      omega
theorem flush_sz {st st' : LS} (h : st.flush = some st') : ssz st' ≤ ssz st + 2 ∧ (st.token = [] → st' = st) ∧ st'.token = [] ∧ (st.token ≠ [] → st'.ahead = false ∧ ssz st' ≤ ssz st + 2) := by
  unfold LS.flush at h
  split at h
  · rename_i ht
    cases h
    exact ⟨by omega, fun _ => rfl, ht, fun q => absurd ht q⟩
  · rename_i ht
    split at h
    · cases h
    · rename_i d hd
      split at h
      · rename_i hah
        cases h
        have := atom_sz hd
        have e : ssz ⟨st.rows, [d], [], false⟩ ≤ ssz st + 2 := by
          unfold ssz
          simp only [hah, Bool.false_eq_true, if_false, if_true]
          have e1 : dszs ([d].take 1) = 1 + dsz d := by
            show dszs [d] = _
            rw [dszs, dszs, Nat.add_zero]
          rw [e1]
          simp
          omega
        exact ⟨e, fun q => absurd q ht, rfl, fun _ => ⟨rfl, e⟩⟩
      · cases h
theorem branch_sz {st st' : LS} {c : Nat} (h : st.branch c = some st') : ssz st' ≤ ssz st + 2 := by
  unfold LS.branch at h
  split at h
  · split at h
    · rename_i hah
      cases h
      unfold ssz
      simp only [hah, if_true]
      rw [rsz, dszs]
      omega
    · cases h
  · split at h
    · split at h
      · rename_i row rest d tl e1 e2 e3
        cases h
        unfold ssz
        simp only [e1, e2, e3, Bool.false_eq_true, if_false, if_true]
        have e4 : dszs ((d :: tl).take 1) = 1 + dsz d := by
          show dszs [d] = _
          rw [dszs, dszs, Nat.add_zero]
        rw [rsz, rsz, dszs_cat, e4, dszs, dszs]
        omega
      · cases h
    · split at h
      · split at h
        · cases h
        · rename_i row rest e1
          split at h
          · cases h
          · cases h
            unfold ssz
            simp only [e1, Bool.false_eq_true, if_false]
            have e4 : ∀ x : D, dszs ([x].take 1) = 1 + dsz x := fun x => by
              show dszs [x] = _
              rw [dszs, dszs, Nat.add_zero]
            rw [e4, rsz, dsz, dszs_cat]
            cases hah : st.ahead
            · simp only [Bool.false_eq_true, if_false]
              omega
            · simp only [if_true]
              rw [dszs]
              omega
      · cases h
        omega
theorem step_sz {st st' : LS} {c : Nat} (h : st.step c = some st') : ssz st' ≤ ssz st + 4 := by
  unfold LS.step at h
  split at h
  · cases hf : st.flush with
    | none => rw [hf] at h; cases h
    | some s =>
      rw [hf] at h
      have h1 := (flush_sz hf).1
      have h2 := branch_sz h
      omega
  · cases h
    unfold ssz
    simp
    omega
theorem run_sz : ∀ (t : L) (st st' : LS), st.run t = some st' → ssz st' ≤ ssz st + 4 * t.length
  | [], st, st', h => by
    rw [LS.run] at h
    cases h
    omega
  | c :: t, st, st', h => by
    rw [LS.run] at h
    cases hs : st.step c with
    | none => rw [hs] at h; cases h
    | some s =>
      rw [hs] at h
      have h1 := step_sz hs
      have h2 := run_sz t s st' h
      rw [List.length_cons]
      omega
theorem lrd_sz {t : L} {d : D} (h : lrd t = some d) : dsz d ≤ 4 * t.length + 4 := by
  unfold lrd at h
  cases hr : (⟨[], [], [], true⟩ : LS).run (t ++ [59]) with
  | none => rw [hr] at h; cases h
  | some st =>
    rw [hr, Option.bind_some] at h
    split at h
    · rename_i hc
      have h1 := run_sz _ _ _ hr
      have h0 : ssz ⟨[], [], [], true⟩ = 0 := rfl
      rw [h0, List.length_append] at h1
      unfold ssz at h1
      rw [hc.2.1] at h1
      cases hd : st.done with
      | nil => rw [hd] at h; cases h
      | cons x r =>
        rw [hd] at h h1
        cases h
        have e4 : dszs ((d :: r).take 1) = 1 + dsz d := by
          show dszs [d] = _
          rw [dszs, dszs, Nat.add_zero]
        rw [e4] at h1
        simp at h1
        omega
    · cases h
end DM
namespace DM
/-! ### words are words, numbers have few signs -/
mutual
def okD (N : Nat) : D → Bool
  | .s w => wordOk w
  | .i z => decide ((num z).length ≤ N)
  | .t ds => okDs N ds
  | .x => false
def okDs (N : Nat) : List D → Bool
  | [] => true
  | d :: r => okD N d && okDs N r
end
theorem okDs_iff {N : Nat} : ∀ {ds : List D}, okDs N ds = true ↔ ∀ d ∈ ds, okD N d = true
  | [] => by rw [okDs]; simp
  | d :: r => by
    rw [okDs, Bool.and_eq_true, okDs_iff (ds := r)]
    simp
theorem atom_ok {N : Nat} {p : L} {d : D} (hp : p.length ≤ N) (e : atom p = some d) : okD N d = true := by
  unfold atom at e
  split at e
  · rename_i hw
    cases e
    rw [okD]
    exact hw
  · cases hz : rdNum p with
    | none => rw [hz] at e; cases e
    | some z =>
      rw [hz] at e
      cases e
      rw [okD, num_rdNum hz]
      exact decide_eq_true hp
structure LOk (N : Nat) (st : LS) (r : L) : Prop where
  rows : ∀ row ∈ st.rows, ∀ d ∈ row, okD N d = true
  done : ∀ d ∈ st.done, okD N d = true
  mr : mr st.token.length r ≤ N
theorem flush_ok {N : Nat} {st st' : LS} {r : L} {c : Nat} (hc : ldel c = true) (g : LOk N st (c :: r)) (h : st.flush = some st') : LOk N st' (c :: r) ∧ st'.token = [] := by
  unfold LS.flush at h
  split at h
  · rename_i ht
    cases h
    exact ⟨g, ht⟩
  · split at h
    · cases h
    · rename_i d hd
      split at h
      · cases h
        have hl := Nat.le_trans (le_mr (c :: r) st.token.length) g.mr
        exact ⟨⟨g.rows, fun e he => by rw [List.mem_singleton.mp he]; exact atom_ok hl hd, Nat.le_trans (mr_mono (Nat.zero_le _)) g.mr⟩, rfl⟩
      · cases h
theorem branch_ok {N : Nat} {st st' : LS} {r : L} {c : Nat} (hc : ldel c = true) (ht : st.token = []) (g : LOk N st (c :: r)) (h : st.branch c = some st') : LOk N st' r := by
  obtain ⟨g1, g2, g3⟩ := g
  rw [mr, if_pos hc] at g3
  have g4 : mr 0 r ≤ N := by omega
  unfold LS.branch at h
  split at h
  · split at h
    · cases h
      refine ⟨fun row hr d hd => ?_, g2, by show mr st.token.length r ≤ N; rw [ht]; exact g4⟩
      rcases List.mem_cons.mp hr with e | hr
      · rw [e] at hd; cases hd
      · exact g1 row hr d hd
    · cases h
  · split at h
    · split at h
      · rename_i row rest d tl e1 e2 e3
        cases h
        refine ⟨fun row' hr d' hd => ?_, g2, by show mr st.token.length r ≤ N; rw [ht]; exact g4⟩
        rcases List.mem_cons.mp hr with e | hr
        · rw [e] at hd
          rcases List.mem_append.mp hd with q | q
          · exact g1 row (by rw [e2]; exact List.mem_cons_self ..) d' q
          · rw [List.mem_singleton.mp q]
            exact g2 d (by rw [e3]; exact List.mem_cons_self ..)
        · exact g1 row' (by rw [e2]; exact List.mem_cons_of_mem _ hr) d' hd
      · cases h
    · split at h
      · split at h
        · cases h
        · rename_i row rest e1
          split at h
          · cases h
          · cases h
            refine ⟨fun row' hr d' hd => g1 row' (by rw [e1]; exact List.mem_cons_of_mem _ hr) d' hd, fun d' hd => ?_, by show mr st.token.length r ≤ N; rw [ht]; exact g4⟩
            rw [List.mem_singleton.mp hd, okD, okDs_iff]
            intro e he
            rcases List.mem_append.mp he with q | q
            · exact g1 row (by rw [e1]; exact List.mem_cons_self ..) e q
            · split at q
              · cases q
              · exact g2 e (List.mem_of_mem_take q)
      · cases h
        exact ⟨g1, g2, by rw [ht]; exact g4⟩
theorem run_ok {N : Nat} : ∀ (t r : L) (st st' : LS), LOk N st (t ++ r) → st.run t = some st' → LOk N st' r
  | [], r, st, st', g, h => by
    rw [LS.run] at h
    cases h
    exact g
  | c :: t, r, st, st', g, h => by
    rw [LS.run] at h
    cases hs : st.step c with
    | none => rw [hs] at h; cases h
    | some s =>
      rw [hs] at h
      refine run_ok t r s st' ?_ h
      unfold LS.step at hs
      split at hs
      · rename_i hc
        cases hf : st.flush with
        | none => rw [hf] at hs; cases hs
        | some s1 =>
          rw [hf] at hs
          obtain ⟨g1, t1⟩ := flush_ok hc g hf
          exact branch_ok hc t1 g1 hs
      · rename_i hc
        cases hs
        obtain ⟨g1, g2, g3⟩ := g
        have g3' : mr st.token.length (c :: (t ++ r)) ≤ N := g3
        rw [mr, if_neg hc] at g3'
        refine ⟨g1, g2, ?_⟩
        show mr (st.token ++ [c]).length (t ++ r) ≤ N
        rw [List.length_append]
        exact g3'
theorem lrd_ok {t : L} {d : D} {N : Nat} (h : lrd t = some d) (hm : mr 0 t ≤ N) : okD N d = true := by
  unfold lrd at h
  cases hr : (⟨[], [], [], true⟩ : LS).run (t ++ [59]) with
  | none => rw [hr] at h; cases h
  | some st =>
    rw [hr, Option.bind_some] at h
    split at h
    · have g0 : LOk N ⟨[], [], [], true⟩ ((t ++ [59]) ++ []) := by
        refine ⟨fun row hr => (by cases hr), fun d hd => (by cases hd), ?_⟩
        show mr 0 ((t ++ [59]) ++ []) ≤ N
        rw [List.append_nil, mr_del (by rfl)]
        have : mr 0 [] = 0 := rfl
        omega
      have g := run_ok (t ++ [59]) [] _ _ g0 hr
      refine g.done d ?_
      cases hd : st.done with
      | nil => rw [hd] at h; cases h
      | cons x q =>
        rw [hd] at h
        cases h
        exact List.mem_cons_self ..
    · cases h
theorem gen_ok : ∀ (n : Nat) (d : D), gen n d → okD 41 d = true
  | n, .s w, h => by
    have hw : atomW w := by cases n <;> exact h
    rw [okD]
    exact (atomW_ok hw).1
  | n, .i z, h => by
    have hz : atomI z := by cases n <;> exact h
    rw [okD]
    exact decide_eq_true (atomI_ok hz).1
  | 0, .t ds, h => by cases h
  | n + 1, .t ds, h => by
    obtain ⟨h0, h⟩ : ds.length ≤ 3 ∧ ∀ d ∈ ds, gen n d := h
    rw [okD, okDs_iff]
    exact fun d hd => gen_ok n d (h d hd)
  | n, .x, h => by cases n <;> cases h
mutual
theorem okD_mono {N M : Nat} (h : N ≤ M) : ∀ d : D, okD N d = true → okD M d = true
  | .s w, q => by rw [okD] at q ⊢; exact q
  | .i z, q => by
    rw [okD] at q ⊢
    exact decide_eq_true (Nat.le_trans (of_decide_eq_true q) h)
  | .t ds, q => by
    rw [okD] at q ⊢
    exact okDs_mono h ds q
  | .x, q => by rw [okD] at q; cases q
theorem okDs_mono {N M : Nat} (h : N ≤ M) : ∀ ds : List D, okDs N ds = true → okDs M ds = true
  | [], _ => by rw [okDs]
  | d :: r, q => by
    rw [okDs, Bool.and_eq_true] at q ⊢
    exact ⟨okD_mono h d q.1, okDs_mono h r q.2⟩
end
/-- the bits of a number of few signs -/
theorem num_small {z : Int} {N : Nat} (h : (num z).length ≤ N) : z.natAbs < 10 ^ N := by
  have hr := rdNum_num z
  obtain ⟨h1, h2, h3, e⟩ := rdNum_inv hr
  have hb : (bodyOf (num z)).length ≤ N := by
    unfold bodyOf
    split
    · rw [List.length_tail]; omega
    · exact h
  have hv := val_lt _ h2
  have hz : z.natAbs = val (bodyOf (num z)) := by
    generalize val (bodyOf (num z)) = v at e
    split at e <;> omega
  rw [hz]
  exact Nat.lt_of_lt_of_le hv (Nat.pow_le_pow_right (by decide) hb)
theorem log_small {z : Int} {N : Nat} (h : (num z).length ≤ N) (hz : z ≠ 0) : z.natAbs.log2 + 1 ≤ 4 * N := by
  have h1 := num_small h
  have h2 : (10 : Nat) ^ N ≤ 16 ^ N := Nat.pow_le_pow_left (by decide) N
  have h3 : (16 : Nat) ^ N = 2 ^ (4 * N) := by rw [Nat.pow_mul]
  have := (Nat.log2_lt (show z.natAbs ≠ 0 by omega) (k := 4 * N)).mpr (by omega)
  omega
/-- the signs of a text -/
theorem wsign_le {c : Nat} (h : wsign c = true) : c ≤ 122 := by
  unfold wsign letter digit at h
  simp only [Bool.or_eq_true, Bool.and_eq_true, decide_eq_true_eq] at h
  omega
theorem word_le {w : L} (h : wordOk w = true) : ∀ c ∈ w, c ≤ 122 := by
  cases w with
  | nil => cases h
  | cons b r =>
    have h2 : (letter b && ((b :: r).all wsign && decide ((b :: r).length ≤ 12))) = true := h
    simp only [Bool.and_eq_true] at h2
    exact fun c hc => wsign_le (List.all_eq_true.mp h2.2.1 c hc)
theorem num_le (z : Int) : ∀ c ∈ num z, c ≤ 122 := fun c hc => by
  rcases (num_chars z).2 c hc with h | h
  · omega
  · unfold digit at h
    simp only [Bool.and_eq_true, decide_eq_true_eq] at h
    omega
mutual
theorem wl_le : ∀ (d : D) (a : L), wl d = some a → ∀ c ∈ a, c ≤ 122
  | .s w, a, h => by
    rw [wl] at h
    split at h
    · rename_i hw
      cases h
      exact word_le hw
    · cases h
  | .i z, a, h => by
    rw [wl] at h
    cases h
    exact num_le z
  | .t ds, a, h => by
    rw [wl] at h
    cases e : wls ds with
    | none => rw [e] at h; cases h
    | some l =>
      rw [e] at h
      cases h
      have := wls_le ds l e
      intro c hc
      simp at hc
      rcases hc with rfl | hc | rfl
      · decide
      · exact this c hc
      · decide
  | .x, a, h => by rw [wl] at h; cases h
theorem wls_le : ∀ (ds : List D) (a : L), wls ds = some a → ∀ c ∈ a, c ≤ 122
  | [], a, h => by rw [wls] at h; cases h; simp
  | d :: r, a, h => by
    rw [wls] at h
    cases e : wl d with
    | none => rw [e] at h; cases h
    | some b =>
      rw [e] at h
      have h1 := wl_le d b e
      simp only [Option.bind_some] at h
      cases r with
      | nil => cases h; exact h1
      | cons f q =>
        simp only at h
        cases e2 : wls (f :: q) with
        | none => rw [e2] at h; cases h
        | some c =>
          rw [e2] at h
          cases h
          have h2 := wls_le (f :: q) c e2
          intro x hx
          simp at hx
          rcases hx with hx | rfl | hx
          · exact h1 x hx
          · decide
          · exact h2 x hx
end
end DM
namespace DM
theorem word_n10 {w : L} (h : wordOk w = true) : ∀ c ∈ w, wsign c = true := fun c hc => by
  cases w with
  | nil => cases hc
  | cons b r =>
    have h2 : (letter b && ((b :: r).all wsign && decide ((b :: r).length ≤ 12))) = true := h
    simp only [Bool.and_eq_true] at h2
    exact List.all_eq_true.mp h2.2.1 c hc
mutual
theorem wl_n10 : ∀ (d : D) (a : L), wl d = some a → 10 ∉ a
  | .s w, a, h => by
    rw [wl] at h
    split at h
    · rename_i hw
      cases h
      intro hm
      have := word_n10 hw 10 hm
      cases this
    · cases h
  | .i z, a, h => by
    rw [wl] at h
    cases h
    intro hm
    rcases (num_chars z).2 10 hm with q | q
    · cases q
    · cases q
  | .t ds, a, h => by
    rw [wl] at h
    cases e : wls ds with
    | none => rw [e] at h; cases h
    | some l =>
      rw [e] at h
      cases h
      have := wls_n10 ds l e
      simp
      exact this
  | .x, a, h => by rw [wl] at h; cases h
theorem wls_n10 : ∀ (ds : List D) (a : L), wls ds = some a → 10 ∉ a
  | [], a, h => by rw [wls] at h; cases h; simp
  | d :: r, a, h => by
    rw [wls] at h
    cases e : wl d with
    | none => rw [e] at h; cases h
    | some b =>
      rw [e] at h
      have h1 := wl_n10 d b e
      simp only [Option.bind_some] at h
      cases r with
      | nil => cases h; exact h1
      | cons f q =>
        simp only at h
        cases e2 : wls (f :: q) with
        | none => rw [e2] at h; cases h
        | some c =>
          rw [e2] at h
          cases h
          have h2 := wls_n10 (f :: q) c e2
          simp
          exact ⟨h1, h2⟩
end
theorem wr_n10 {d : D} {k : Nat} {a : L} (h : wr d k = some a) : 10 ∉ a := wl_n10 d a (wl_of_wr d k a h)
theorem rd_sz {d : D} {t : L} (h : rd t = some d) : dsz d ≤ 4 * t.length + 4 := lrd_sz (lrd_of_wl (wl_of_wr d 1 t (wr_of_rd h)))
/-! ### the parts of a diary -/
inductive Pt where
  | ln (l : L)
  | kt (k t : L)
  | dt (ds : List D)
def mark : Nat → L
  | 0 => [62, 32]
  | 1 => [61, 32]
  | _ => [35, 32]
def partOf (k : Nat) (r : L) : Option Pt :=
  if r.take 2 = mark k then
    match k with
    | 0 => some (.ln (r.drop 2))
    | 1 => match TL.par [32] [] (r.drop 2) with
      | some (kd, tx) => if wordOk kd = true then some (.kt kd tx) else none
      | none => none
    | _ => match rd (r.drop 2) with
      | some (.t ds) => some (.dt ds)
      | _ => none
  else none
def scanD : Nat → List L → Nat ⊕ List Pt
  | _, [] => .inr []
  | k, r :: rs => match partOf (k % 3) r with
    | none => .inl (k + 1)
    | some p => match scanD (k + 1) rs with
      | .inl n => .inl n
      | .inr ps => .inr (p :: ps)
def addP (a : List Pt) : Nat ⊕ List Pt → Nat ⊕ List Pt
  | .inl n => .inl n
  | .inr b => .inr (a ++ b)
theorem addP_addP (a b : List Pt) (x : Nat ⊕ List Pt) : addP a (addP b x) = addP (a ++ b) x := by
  cases x <;> simp [addP]
theorem addP_nil (x : Nat ⊕ List Pt) : addP [] x = x := by cases x <;> rfl
def dres (rows : List L) : Nat ⊕ List Pt := match scanD 0 rows.dropLast with
  | .inl n => .inl n
  | .inr ps => if rows.getLast? = some [] ∧ ps.length % 3 = 0 then .inr ps else .inl rows.length
theorem scan_step {rs : List L} {i : Nat} {r : L} (h : rs[i]? = some r) : scanD i (rs.drop i) = match partOf (i % 3) r with
    | none => .inl (i + 1)
    | some p => addP [p] (scanD (i + 1) (rs.drop (i + 1))) := by
  obtain ⟨h1, h2⟩ := List.getElem?_eq_some_iff.mp h
  rw [List.drop_eq_getElem_cons h1, h2, scanD]
  cases partOf (i % 3) r with
  | none => rfl
  | some p => cases scanD (i + 1) (rs.drop (i + 1)) <;> rfl
/-- the parts are of their kinds -/
def Kin (ps : List Pt) : Prop := ∀ (j : Nat) (p : Pt), ps[j]? = some p → ∃ r, partOf (j % 3) r = some p
theorem Kin.nil : Kin [] := fun j p h => by cases j <;> cases h
theorem Kin.snoc {ps : List Pt} {p : Pt} {r : L} (h : Kin ps) (hp : partOf (ps.length % 3) r = some p) : Kin (ps ++ [p]) := fun j q hq => by
  by_cases hj : j < ps.length
  · rw [List.getElem?_append_left hj] at hq
    exact h j q hq
  · rw [List.getElem?_append_right (by omega)] at hq
    cases hk : j - ps.length with
    | zero =>
      rw [hk] at hq
      cases hq
      have : j = ps.length := by omega
      rw [this]
      exact ⟨r, hp⟩
    | succ m => rw [hk] at hq; cases hq
theorem kin0 {r : L} {p : Pt} (h : partOf 0 r = some p) : ∃ l, p = .ln l := by
  unfold partOf at h
  split at h
  · cases h; exact ⟨_, rfl⟩
  · cases h
theorem kin1 {r : L} {p : Pt} (h : partOf 1 r = some p) : ∃ k t, p = .kt k t ∧ wordOk k = true := by
  unfold partOf at h
  split at h
  · simp only at h
    split at h
    · split at h
      · rename_i hw
        cases h
        exact ⟨_, _, rfl, hw⟩
      · cases h
    · cases h
  · cases h
theorem kin2 {r : L} {p : Pt} (h : partOf 2 r = some p) : ∃ ds, p = .dt ds := by
  unfold partOf at h
  split at h
  · simp only at h
    split at h
    · cases h; exact ⟨_, rfl⟩
    · cases h
  · cases h
theorem Kin.tri {ps : List Pt} (h : Kin ps) {t : Nat} (ht : 3 * t + 2 < ps.length) : ∃ l k tx ds, ps[3 * t]? = some (.ln l) ∧ ps[3 * t + 1]? = some (.kt k tx) ∧ wordOk k = true ∧ ps[3 * t + 2]? = some (.dt ds) := by
  have e0 : ps[3 * t]? = some ps[3 * t] := List.getElem?_eq_getElem (by omega)
  have e1 : ps[3 * t + 1]? = some ps[3 * t + 1] := List.getElem?_eq_getElem (by omega)
  have e2 : ps[3 * t + 2]? = some ps[3 * t + 2] := List.getElem?_eq_getElem (by omega)
  obtain ⟨r0, h0⟩ := h _ _ e0
  obtain ⟨r1, h1⟩ := h _ _ e1
  obtain ⟨r2, h2⟩ := h _ _ e2
  rw [show 3 * t % 3 = 0 by omega] at h0
  rw [show (3 * t + 1) % 3 = 1 by omega] at h1
  rw [show (3 * t + 2) % 3 = 2 by omega] at h2
  obtain ⟨l, q0⟩ := kin0 h0
  obtain ⟨k, tx, q1, hw⟩ := kin1 h1
  obtain ⟨ds, q2⟩ := kin2 h2
  exact ⟨l, k, tx, ds, by rw [e0, q0], by rw [e1, q1], hw, by rw [e2, q2]⟩
/-! ### a written diary is read back -/
structure En where
  l : L
  k : L
  t : L
  ds : List D
  a : L
def En.Ok (e : En) : Prop := 10 ∉ e.l ∧ wordOk e.k = true ∧ 10 ∉ e.t ∧ wr (.t e.ds) 1 = some e.a
def En.rows (e : En) : List L := [[62, 32] ++ e.l, [61, 32] ++ e.k ++ [32] ++ e.t, [35, 32] ++ e.a]
theorem word_ne32 {w : L} (h : wordOk w = true) : 32 ∉ w := fun hm => by
  have := word_n10 h 32 hm
  cases this
theorem rows_n10 {e : En} (h : e.Ok) : ∀ r ∈ e.rows, 10 ∉ r := by
  obtain ⟨h1, h2, h3, h4⟩ := h
  have h5 : 10 ∉ e.k := fun hm => by
    have := word_n10 h2 10 hm
    cases this
  have h6 := wr_n10 h4
  intro r hr
  simp only [En.rows, List.mem_cons, List.not_mem_nil, or_false] at hr
  rcases hr with q | q | q <;> (rw [q]; simp [h1, h3, h5, h6])
theorem part_ln {e : En} : partOf 0 ([62, 32] ++ e.l) = some (.ln e.l) := by
  unfold partOf
  rw [if_pos (by simp [mark])]
  simp
theorem part_kt {e : En} (h : e.Ok) : partOf 1 ([61, 32] ++ e.k ++ [32] ++ e.t) = some (.kt e.k e.t) := by
  unfold partOf
  rw [if_pos (by simp [mark])]
  have e1 : ([61, 32] ++ e.k ++ [32] ++ e.t).drop 2 = e.k ++ ([32] ++ e.t) := by simp
  simp only [e1]
  rw [TL.par_part1 (word_ne32 h.2.1)]
  simp only [List.nil_append]
  rw [if_pos h.2.1]
theorem part_dt {e : En} (h : e.Ok) : partOf 2 ([35, 32] ++ e.a) = some (.dt e.ds) := by
  unfold partOf
  rw [if_pos (by simp [mark])]
  have e1 : ([35, 32] ++ e.a).drop 2 = e.a := by simp
  simp only [e1]
  rw [rd_of_wr h.2.2.2]
theorem scan_rows : ∀ (es : List En) (k : Nat), k % 3 = 0 → (∀ e ∈ es, e.Ok) → ∃ ps, scanD k (es.flatMap En.rows) = .inr ps ∧ ps.length = 3 * es.length
  | [], k, _, _ => ⟨[], rfl, rfl⟩
  | e :: es, k, hk, h => by
    have he := h e (by simp)
    obtain ⟨ps, h1, h2⟩ := scan_rows es (k + 3) (by omega) fun x hx => h x (by simp [hx])
    refine ⟨.ln e.l :: .kt e.k e.t :: .dt e.ds :: ps, ?_, by simp [h2]; omega⟩
    have e0 : (e :: es).flatMap En.rows = ([62, 32] ++ e.l) :: ([61, 32] ++ e.k ++ [32] ++ e.t) :: ([35, 32] ++ e.a) :: es.flatMap En.rows := by simp [En.rows]
    rw [e0, scanD, scanD, scanD, hk, show (k + 1) % 3 = 1 by omega, show (k + 1 + 1) % 3 = 2 by omega, part_ln, part_kt he, part_dt he, show k + 1 + 1 + 1 = k + 3 by omega, h1]
theorem spl_rows : ∀ (rows : List L), (∀ r ∈ rows, 10 ∉ r) → TL.spl [10] 0 [] ((rows.map fun r => r ++ [10]).flatten) = rows ++ [[]]
  | [], _ => TL.spl_nil _ _ _
  | r :: rs, h => by
    have e1 : (((r :: rs).map fun r => r ++ [10]).flatten) = r ++ ([10] ++ (rs.map fun r => r ++ [10]).flatten) := by simp
    rw [e1, TL.spl_part1 (h r (by simp)), spl_rows rs fun x hx => h x (by simp [hx])]
    rfl
theorem dres_text {es : List En} (h : ∀ e ∈ es, e.Ok) : ∃ ps, dres (TL.spl [10] 0 [] (((es.flatMap En.rows).map fun r => r ++ [10]).flatten)) = .inr ps ∧ ps.length = 3 * es.length := by
  obtain ⟨ps, h1, h2⟩ := scan_rows es 0 rfl h
  refine ⟨ps, ?_, h2⟩
  rw [spl_rows _ fun r hr => by
    obtain ⟨e, he, hr⟩ := List.mem_flatMap.mp hr
    exact rows_n10 (h e he) r hr]
  unfold dres
  rw [List.dropLast_concat, h1]
  simp [h2]
end DM
namespace DM
/-! ### the data that the law draws -/
def gW (w : L) : Prop := w = [97] ∨ w = [120, 57]
def gI (z : Int) : Prop := z = 0 ∨ z = -5 ∨ z = 1000
def gd : Nat → D → Prop
  | _, .s w => gW w
  | _, .i z => gI z
  | n + 1, .t ds => ds.length ≤ 2 ∧ ∀ d ∈ ds, gd n d
  | _, _ => False
def tl : Nat → Nat
  | 0 => 4
  | n + 1 => 2 * tl n + 4
theorem tl_ge : ∀ n, 4 ≤ tl n
  | 0 => Nat.le_refl _
  | n + 1 => by
    have := tl_ge n
    rw [tl]
    omega
theorem gW_ok {w : L} (h : gW w) : wordOk w = true ∧ w.length ≤ 2 := by
  rcases h with rfl | rfl <;> decide
theorem gI_ok {z : Int} (h : gI z) : short z = true ∧ (num z).length ≤ 4 := by
  have e : ∀ k : Nat, k ≤ 9999 → short (k : Int) = true ∧ (num (k : Int)).length ≤ 4 := fun k hk => by
    refine ⟨short_iff.mpr (Nat.lt_of_lt_of_le (m := 10 ^ 4) (by omega) (Nat.pow_le_pow_right (by decide) (by decide))), ?_⟩
    rw [num_nat]
    exact digs_len_le 4 k (by decide) (by omega)
  rcases h with rfl | rfl | rfl
  · exact e 0 (by decide)
  · refine ⟨short_iff.mpr (Nat.lt_of_lt_of_le (m := 10 ^ 1) (by decide) (Nat.pow_le_pow_right (by decide) (by decide))), ?_⟩
    rw [show (-5 : Int) = -((5 : Nat) : Int) from rfl, num_neg 5 (by decide)]
    have := digs_len_le 1 5 (by decide) (by decide)
    simp
    omega
  · exact e 1000 (by decide)
def gz : Nat → Nat
  | 0 => 5
  | n + 1 => 2 * gz n + 4
theorem gz_ge : ∀ n, 5 ≤ gz n
  | 0 => Nat.le_refl _
  | n + 1 => by
    have := gz_ge n
    rw [gz]
    omega
mutual
theorem gd_wr : ∀ (d : D) (n k : Nat), gd n d → n + k ≤ 1000 → (∃ a, wr d k = some a ∧ a.length ≤ tl n) ∧ dsz d ≤ gz n
  | .s w, n, k, h, _ => by
    have hw : gW w := by cases n <;> exact h
    obtain ⟨h1, h2⟩ := gW_ok hw
    have := tl_ge n
    have := gz_ge n
    refine ⟨⟨w, by rw [wr, if_pos h1], by omega⟩, ?_⟩
    rw [dsz]
    omega
  | .i z, n, k, h, _ => by
    have hz : gI z := by cases n <;> exact h
    obtain ⟨h1, h2⟩ := gI_ok hz
    have := tl_ge n
    have := gz_ge n
    refine ⟨⟨num z, by rw [wr, if_pos h1], by omega⟩, ?_⟩
    rw [dsz]
    omega
  | .t ds, 0, k, h, _ => by cases h
  | .t ds, n + 1, k, h, hk => by
    obtain ⟨h0, h⟩ : ds.length ≤ 2 ∧ ∀ d ∈ ds, gd n d := h
    obtain ⟨⟨a, h1, h2⟩, h3⟩ := gds_wr ds n (k + 1) h (by omega)
    have e1 := Nat.mul_le_mul_right (tl n + 1) h0
    have e2 := Nat.mul_le_mul_right (gz n + 1) h0
    refine ⟨⟨91 :: (a ++ [93]), by rw [wr, if_pos (by omega), h1]; rfl, ?_⟩, ?_⟩
    · rw [tl]
      simp
      omega
    · rw [dsz, gz]
      omega
  | .x, n, k, h, _ => by cases n <;> cases h
theorem gds_wr : ∀ (ds : List D) (n k : Nat), (∀ d ∈ ds, gd n d) → n + k ≤ 1000 → (∃ a, wrs ds k = some a ∧ a.length ≤ ds.length * (tl n + 1)) ∧ dszs ds ≤ ds.length * (gz n + 1)
  | [], n, k, _, _ => ⟨⟨[], by rw [wrs], by simp⟩, by rw [dszs]; simp⟩
  | d :: r, n, k, h, hk => by
    obtain ⟨⟨a, h1, h2⟩, h3⟩ := gd_wr d n k (h d (by simp)) hk
    obtain ⟨⟨b, h4, h5⟩, h6⟩ := gds_wr r n k (fun x hx => h x (by simp [hx])) hk
    have e1 : (d :: r).length * (tl n + 1) = r.length * (tl n + 1) + (tl n + 1) := by rw [List.length_cons, Nat.add_mul, Nat.one_mul]
    have e2 : (d :: r).length * (gz n + 1) = r.length * (gz n + 1) + (gz n + 1) := by rw [List.length_cons, Nat.add_mul, Nat.one_mul]
    refine ⟨?_, by rw [dszs, e2]; omega⟩
    rw [wrs, h1, Option.bind_some]
    cases r with
    | nil => exact ⟨a, rfl, by rw [e1]; omega⟩
    | cons f q =>
      refine ⟨a ++ 44 :: b, by simp only [h4, Option.map_some], ?_⟩
      rw [e1]
      simp only [List.length_append, List.length_cons] at h5 ⊢
      omega
end
end DM
namespace W63
open PySem PySem.Spec PyProof.Rows L2 U
def top (i : Nat) : Stmt := PySem.Challenge.pw_wirewary_k63_whole_texts_of_diaries.main.body.getD i (.Pass ⟨0, 0, 0, 0⟩)
abbrev s_is_whole : Stmt := top 6
abbrev P_is_whole : List Str := ["value"]
abbrev N_is_whole : List Str := ["value"]
theorem sc_is_whole : FnScope N_is_whole P_is_whole (defScope s_is_whole) := ⟨rfl, rfl, rfl, by decide +kernel, rfl, by decide +kernel, by decide +kernel⟩
abbrev s_same : Stmt := top 7
abbrev P_same : List Str := ["one", "two"]
abbrev N_same : List Str := ["one", "two", "waiting", "first", "second"]
theorem sc_same : FnScope N_same P_same (defScope s_same) := ⟨rfl, rfl, rfl, by decide +kernel, rfl, by decide +kernel, by decide +kernel⟩
abbrev s_is_word : Stmt := top 12
abbrev P_is_word : List Str := ["value"]
abbrev N_is_word : List Str := ["value", "sign"]
theorem sc_is_word : FnScope N_is_word P_is_word (defScope s_is_word) := ⟨rfl, rfl, rfl, by decide +kernel, rfl, by decide +kernel, by decide +kernel⟩
abbrev s_is_short : Stmt := top 13
abbrev P_is_short : List Str := ["value"]
abbrev N_is_short : List Str := ["value", "most", "_"]
theorem sc_is_short : FnScope N_is_short P_is_short (defScope s_is_short) := ⟨rfl, rfl, rfl, by decide +kernel, rfl, by decide +kernel, by decide +kernel⟩
abbrev s_write_data : Stmt := top 14
abbrev P_write_data : List Str := ["data"]
abbrev N_write_data : List Str := ["data", "waiting", "found", "one", "depth", "k"]
theorem sc_write_data : FnScope N_write_data P_write_data (defScope s_write_data) := ⟨rfl, rfl, rfl, by decide +kernel, rfl, by decide +kernel, by decide +kernel⟩
abbrev s_read_whole : Stmt := top 15
abbrev P_read_whole : List Str := ["text"]
abbrev N_read_whole : List Str := ["text", "body", "sign"]
theorem sc_read_whole : FnScope N_read_whole P_read_whole (defScope s_read_whole) := ⟨rfl, rfl, rfl, by decide +kernel, rfl, by decide +kernel, by decide +kernel⟩
abbrev s_pieces_of : Stmt := top 16
abbrev P_pieces_of : List Str := ["text"]
abbrev N_pieces_of : List Str := ["text", "found", "start", "place", "sign"]
theorem sc_pieces_of : FnScope N_pieces_of P_pieces_of (defScope s_pieces_of) := ⟨rfl, rfl, rfl, by decide +kernel, rfl, by decide +kernel, by decide +kernel⟩
abbrev s_read_data : Stmt := top 18
abbrev P_read_data : List Str := ["text"]
abbrev N_read_data : List Str := ["text", "reader", "piece"]
theorem sc_read_data : FnScope N_read_data P_read_data (defScope s_read_data) := ⟨rfl, rfl, rfl, by decide +kernel, rfl, by decide +kernel, by decide +kernel⟩
abbrev s_is_text : Stmt := top 23
abbrev P_is_text : List Str := ["value"]
abbrev N_is_text : List Str := ["value"]
theorem sc_is_text : FnScope N_is_text P_is_text (defScope s_is_text) := ⟨rfl, rfl, rfl, by decide +kernel, rfl, by decide +kernel, by decide +kernel⟩
abbrev s_write_diary : Stmt := top 24
abbrev P_write_diary : List Str := ["entries"]
abbrev N_write_diary : List Str := ["entries", "found", "entry", "reply", "lines", "line"]
theorem sc_write_diary : FnScope N_write_diary P_write_diary (defScope s_write_diary) := ⟨rfl, rfl, rfl, by decide +kernel, rfl, by decide +kernel, by decide +kernel⟩
abbrev s_read_part : Stmt := top 25
abbrev P_read_part : List Str := ["line", "k"]
abbrev N_read_part : List Str := ["line", "k", "rest", "kind", "blank", "text", "data"]
theorem sc_read_part : FnScope N_read_part P_read_part (defScope s_read_part) := ⟨rfl, rfl, rfl, by decide +kernel, rfl, by decide +kernel, by decide +kernel⟩
abbrev s_read_diary : Stmt := top 26
abbrev P_read_diary : List Str := ["text"]
abbrev N_read_diary : List Str := ["text", "lines", "parts", "at", "t"]
theorem sc_read_diary : FnScope N_read_diary P_read_diary (defScope s_read_diary) := ⟨rfl, rfl, rfl, by decide +kernel, rfl, by decide +kernel, by decide +kernel⟩
abbrev s__law_draw : Stmt := top 28
abbrev P__law_draw : List Str := ["script"]
abbrev N__law_draw : List Str := ["script", "seed", "cell"]
theorem sc__law_draw : FnScope N__law_draw P__law_draw (defScope s__law_draw) := ⟨rfl, rfl, rfl, by decide +kernel, rfl, by decide +kernel, by decide +kernel⟩
abbrev s__law_take : Stmt := top 29
abbrev P__law_take : List Str := ["draw", "many"]
abbrev N__law_take : List Str := ["draw", "many", "found"]
theorem sc__law_take : FnScope N__law_take P__law_take (defScope s__law_take) := ⟨rfl, rfl, rfl, by decide +kernel, rfl, by decide +kernel, by decide +kernel⟩
abbrev s__law_data : Stmt := top 30
abbrev P__law_data : List Str := ["draw", "deep"]
abbrev N__law_data : List Str := ["draw", "deep", "turn"]
theorem sc__law_data : FnScope N__law_data P__law_data (defScope s__law_data) := ⟨rfl, rfl, rfl, by decide +kernel, rfl, by decide +kernel, by decide +kernel⟩
abbrev s__law_is_word : Stmt := top 31
abbrev P__law_is_word : List Str := ["value"]
abbrev N__law_is_word : List Str := ["value", "small", "sign"]
theorem sc__law_is_word : FnScope N__law_is_word P__law_is_word (defScope s__law_is_word) := ⟨rfl, rfl, rfl, by decide +kernel, rfl, by decide +kernel, by decide +kernel⟩
abbrev s__law_read : Stmt := top 32
abbrev P__law_read : List Str := ["text"]
abbrev N__law_read : List Str := ["text"]
theorem sc__law_read : FnScope N__law_read P__law_read (defScope s__law_read) := ⟨rfl, rfl, rfl, by decide +kernel, rfl, by decide +kernel, by decide +kernel⟩
abbrev s__law_due : Stmt := top 33
abbrev P__law_due : List Str := ["text"]
abbrev N__law_due : List Str := ["text", "rows", "found", "part", "k", "row", "turn", "kind", "blank", "rest", "data"]
theorem sc__law_due : FnScope N__law_due P__law_due (defScope s__law_due) := ⟨rfl, rfl, rfl, by decide +kernel, rfl, by decide +kernel, by decide +kernel⟩
abbrev s__law_told : Stmt := top 34
abbrev P__law_told : List Str := ["which", "value"]
abbrev N__law_told : List Str := ["which", "value", "fault"]
theorem sc__law_told : FnScope N__law_told P__law_told (defScope s__law_told) := ⟨rfl, rfl, rfl, by decide +kernel, rfl, by decide +kernel, by decide +kernel⟩
abbrev s__law_fits : Stmt := top 35
abbrev P__law_fits : List Str := ["told", "due"]
abbrev N__law_fits : List Str := ["told", "due", "k"]
theorem sc__law_fits : FnScope N__law_fits P__law_fits (defScope s__law_fits) := ⟨rfl, rfl, rfl, by decide +kernel, rfl, by decide +kernel, by decide +kernel⟩
abbrev s_law : Stmt := top 36
abbrev P_law : List Str := ["script"]
abbrev N_law : List Str := ["script", "draw", "turn", "entries", "text", "k", "line", "kind", "more", "data", "i", "held", "again", "sign", "other", "good", "bads", "bad", "value"]
theorem sc_law : FnScope N_law P_law (defScope s_law) := ⟨rfl, rfl, rfl, by decide +kernel, rfl, by decide +kernel, by decide +kernel⟩
abbrev s_DataReader___init__ : Stmt := inClass (top 17) 0
abbrev P_DataReader___init__ : List Str := ["self"]
abbrev N_DataReader___init__ : List Str := ["self"]
theorem sc_DataReader___init__ : FnScope N_DataReader___init__ P_DataReader___init__ (defScope s_DataReader___init__) := ⟨rfl, rfl, rfl, by decide +kernel, rfl, by decide +kernel, by decide +kernel⟩
abbrev s_DataReader_item : Stmt := inClass (top 17) 1
abbrev P_DataReader_item : List Str := ["self", "value"]
abbrev N_DataReader_item : List Str := ["self", "value"]
theorem sc_DataReader_item : FnScope N_DataReader_item P_DataReader_item (defScope s_DataReader_item) := ⟨rfl, rfl, rfl, by decide +kernel, rfl, by decide +kernel, by decide +kernel⟩
abbrev s_DataReader_open_one : Stmt := inClass (top 17) 2
abbrev P_DataReader_open_one : List Str := ["self"]
abbrev N_DataReader_open_one : List Str := ["self"]
theorem sc_DataReader_open_one : FnScope N_DataReader_open_one P_DataReader_open_one (defScope s_DataReader_open_one) := ⟨rfl, rfl, rfl, by decide +kernel, rfl, by decide +kernel, by decide +kernel⟩
abbrev s_DataReader_close_one : Stmt := inClass (top 17) 3
abbrev P_DataReader_close_one : List Str := ["self"]
abbrev N_DataReader_close_one : List Str := ["self", "found"]
theorem sc_DataReader_close_one : FnScope N_DataReader_close_one P_DataReader_close_one (defScope s_DataReader_close_one) := ⟨rfl, rfl, rfl, by decide +kernel, rfl, by decide +kernel, by decide +kernel⟩
abbrev s_DataReader_comma : Stmt := inClass (top 17) 4
abbrev P_DataReader_comma : List Str := ["self"]
abbrev N_DataReader_comma : List Str := ["self"]
theorem sc_DataReader_comma : FnScope N_DataReader_comma P_DataReader_comma (defScope s_DataReader_comma) := ⟨rfl, rfl, rfl, by decide +kernel, rfl, by decide +kernel, by decide +kernel⟩
abbrev s_DataReader_take : Stmt := inClass (top 17) 5
abbrev P_DataReader_take : List Str := ["self", "piece"]
abbrev N_DataReader_take : List Str := ["self", "piece"]
theorem sc_DataReader_take : FnScope N_DataReader_take P_DataReader_take (defScope s_DataReader_take) := ⟨rfl, rfl, rfl, by decide +kernel, rfl, by decide +kernel, by decide +kernel⟩
abbrev s_Reply___init__ : Stmt := inClass (top 20) 0
abbrev P_Reply___init__ : List Str := ["self", "kind", "text", "data"]
abbrev N_Reply___init__ : List Str := ["self", "kind", "text", "data"]
theorem sc_Reply___init__ : FnScope N_Reply___init__ P_Reply___init__ (defScope s_Reply___init__) := ⟨rfl, rfl, rfl, by decide +kernel, rfl, by decide +kernel, by decide +kernel⟩
abbrev s_Reply___eq__ : Stmt := inClass (top 20) 1
abbrev P_Reply___eq__ : List Str := ["self", "other"]
abbrev N_Reply___eq__ : List Str := ["self", "other"]
theorem sc_Reply___eq__ : FnScope N_Reply___eq__ P_Reply___eq__ (defScope s_Reply___eq__) := ⟨rfl, rfl, rfl, by decide +kernel, rfl, by decide +kernel, by decide +kernel⟩
abbrev d_is_whole : He.DefD := ⟨("is_whole", none), "is_whole", "is_whole", defArgs s_is_whole, defBody s_is_whole, defScope s_is_whole, [], []⟩
abbrev d_same : He.DefD := ⟨("same", none), "same", "same", defArgs s_same, defBody s_same, defScope s_same, [], []⟩
abbrev d_is_word : He.DefD := ⟨("is_word", none), "is_word", "is_word", defArgs s_is_word, defBody s_is_word, defScope s_is_word, [], []⟩
abbrev d_is_short : He.DefD := ⟨("is_short", none), "is_short", "is_short", defArgs s_is_short, defBody s_is_short, defScope s_is_short, [], []⟩
abbrev d_write_data : He.DefD := ⟨("write_data", none), "write_data", "write_data", defArgs s_write_data, defBody s_write_data, defScope s_write_data, [], []⟩
abbrev d_read_whole : He.DefD := ⟨("read_whole", none), "read_whole", "read_whole", defArgs s_read_whole, defBody s_read_whole, defScope s_read_whole, [], []⟩
abbrev d_pieces_of : He.DefD := ⟨("pieces_of", none), "pieces_of", "pieces_of", defArgs s_pieces_of, defBody s_pieces_of, defScope s_pieces_of, [], []⟩
abbrev d_read_data : He.DefD := ⟨("read_data", none), "read_data", "read_data", defArgs s_read_data, defBody s_read_data, defScope s_read_data, [], []⟩
abbrev d_is_text : He.DefD := ⟨("is_text", none), "is_text", "is_text", defArgs s_is_text, defBody s_is_text, defScope s_is_text, [], []⟩
abbrev d_write_diary : He.DefD := ⟨("write_diary", none), "write_diary", "write_diary", defArgs s_write_diary, defBody s_write_diary, defScope s_write_diary, [], []⟩
abbrev d_read_part : He.DefD := ⟨("read_part", none), "read_part", "read_part", defArgs s_read_part, defBody s_read_part, defScope s_read_part, [], []⟩
abbrev d_read_diary : He.DefD := ⟨("read_diary", none), "read_diary", "read_diary", defArgs s_read_diary, defBody s_read_diary, defScope s_read_diary, [], []⟩
abbrev d__law_draw : He.DefD := ⟨("_law_draw", none), "_law_draw", "_law_draw", defArgs s__law_draw, defBody s__law_draw, defScope s__law_draw, [], []⟩
abbrev d__law_take : He.DefD := ⟨("_law_take", none), "_law_take", "_law_take", defArgs s__law_take, defBody s__law_take, defScope s__law_take, [], []⟩
abbrev d__law_data : He.DefD := ⟨("_law_data", none), "_law_data", "_law_data", defArgs s__law_data, defBody s__law_data, defScope s__law_data, [], []⟩
abbrev d__law_is_word : He.DefD := ⟨("_law_is_word", none), "_law_is_word", "_law_is_word", defArgs s__law_is_word, defBody s__law_is_word, defScope s__law_is_word, [], []⟩
abbrev d__law_read : He.DefD := ⟨("_law_read", none), "_law_read", "_law_read", defArgs s__law_read, defBody s__law_read, defScope s__law_read, [], []⟩
abbrev d__law_due : He.DefD := ⟨("_law_due", none), "_law_due", "_law_due", defArgs s__law_due, defBody s__law_due, defScope s__law_due, [], []⟩
abbrev d__law_told : He.DefD := ⟨("_law_told", none), "_law_told", "_law_told", defArgs s__law_told, defBody s__law_told, defScope s__law_told, [], []⟩
abbrev d__law_fits : He.DefD := ⟨("_law_fits", none), "_law_fits", "_law_fits", defArgs s__law_fits, defBody s__law_fits, defScope s__law_fits, [], []⟩
abbrev d_law : He.DefD := ⟨("law", none), "law", "law", defArgs s_law, defBody s_law, defScope s_law, [], []⟩
abbrev d_DataReader___init__ : He.DefD := ⟨("DataReader", some "__init__"), "__init__", "DataReader.__init__", defArgs s_DataReader___init__, defBody s_DataReader___init__, defScope s_DataReader___init__, [], []⟩
abbrev d_DataReader_item : He.DefD := ⟨("DataReader", some "item"), "item", "DataReader.item", defArgs s_DataReader_item, defBody s_DataReader_item, defScope s_DataReader_item, [], []⟩
abbrev d_DataReader_open_one : He.DefD := ⟨("DataReader", some "open_one"), "open_one", "DataReader.open_one", defArgs s_DataReader_open_one, defBody s_DataReader_open_one, defScope s_DataReader_open_one, [], []⟩
abbrev d_DataReader_close_one : He.DefD := ⟨("DataReader", some "close_one"), "close_one", "DataReader.close_one", defArgs s_DataReader_close_one, defBody s_DataReader_close_one, defScope s_DataReader_close_one, [], []⟩
abbrev d_DataReader_comma : He.DefD := ⟨("DataReader", some "comma"), "comma", "DataReader.comma", defArgs s_DataReader_comma, defBody s_DataReader_comma, defScope s_DataReader_comma, [], []⟩
abbrev d_DataReader_take : He.DefD := ⟨("DataReader", some "take"), "take", "DataReader.take", defArgs s_DataReader_take, defBody s_DataReader_take, defScope s_DataReader_take, [], []⟩
abbrev d_Reply___init__ : He.DefD := ⟨("Reply", some "__init__"), "__init__", "Reply.__init__", defArgs s_Reply___init__, defBody s_Reply___init__, defScope s_Reply___init__, [.str (S []), .adr (He.dflAt ("Reply", some "__init__") 1)], []⟩
abbrev d_Reply___eq__ : He.DefD := ⟨("Reply", some "__eq__"), "__eq__", "Reply.__eq__", defArgs s_Reply___eq__, defBody s_Reply___eq__, defScope s_Reply___eq__, [], []⟩
def fn : List He.DefD := [d_is_whole, d_same, d_is_word, d_is_short, d_write_data, d_read_whole, d_pieces_of, d_read_data, d_is_text, d_write_diary, d_read_part, d_read_diary, d__law_draw, d__law_take, d__law_data, d__law_is_word, d__law_read, d__law_due, d__law_told, d__law_fits, d_law, d_DataReader___init__, d_DataReader_item, d_DataReader_open_one, d_DataReader_close_one, d_DataReader_comma, d_DataReader_take, d_Reply___init__, d_Reply___eq__]
def fa : List He.Fa := [.free "len", .free "abs", .free "isinstance", .free "all", .free "any", .free "int", .free "str", .free "bool", .free "list", .free "tuple", .free "range", .free "enumerate", .free "zip", .free "ValueError", .str "LETTERS" (S [97, 98, 99, 100, 101, 102, 103, 104, 105, 106, 107, 108, 109, 110, 111, 112, 113, 114, 115, 116, 117, 118, 119, 120, 121, 122]), .str "DIGITS" (S [48, 49, 50, 51, 52, 53, 54, 55, 56, 57]), .int "MOST_WORD" 12, .int "MOST_DEPTH" 1000, .int "MOST_DIGITS" 4000, .glo "MARKS", .glo "is_whole", .glo "same", .glo "is_word", .glo "is_short", .glo "write_data", .glo "read_whole", .glo "pieces_of", .glo "read_data", .glo "is_text", .glo "write_diary", .glo "read_part", .glo "read_diary", .glo "_law_draw", .glo "_law_take", .glo "_law_data", .glo "_law_is_word", .glo "_law_read", .glo "_law_due", .glo "_law_told", .glo "_law_fits", .glo "law", .glo "Malformed", .glo "DataReader", .cls "DataReader", .mkr "DataReader", .meth "DataReader" "__init__", .meth "DataReader" "item", .meth "DataReader" "open_one", .meth "DataReader" "close_one", .meth "DataReader" "comma", .meth "DataReader" "take", .noat "DataReader" "tuples", .noat "DataReader" "ready", .noat "DataReader" "told", .glo "Reply", .cls "Reply", .mkr "Reply", .meth "Reply" "__init__", .meth "Reply" "__eq__", .noat "Reply" "kind", .noat "Reply" "text", .noat "Reply" "data"]
def exB (K : PySem.W.Frag) : Bool := PySem.W.excIn K (He.ga K "Malformed") [.type "ValueError", .type "Exception", .type "BaseException", .type "object"] "ValueError.__new__" && (PySem.W.keepIn K (.ref (He.ga K "Malformed")) && (decide (PySem.W.subIn K (.ref (He.ga K "Malformed")) (.type "BaseException") = some true) && (decide (PySem.W.typeIn K (.ref (He.ga K "Malformed")) = some (.type "type")) && (decide (PySem.W.exmOne K (.ref (He.ga K "Malformed")) (.ref (He.ga K "Malformed")) = some true) && (tupB K (He.ga K "MARKS") [.str (S [62, 32]), .str (S [61, 32]), .str (S [35, 32])] && (strCB K (He.ga K "Malformed") && (isoB K (He.ga K "Reply") && (tupB K (He.dflAt ("Reply", some "__init__") 1 K) []))))))))
structure Txt (K : PySem.W.Frag) (mg : Str → Option Value) : Prop where
  f_len : mg "len" = none
  f_abs : mg "abs" = none
  f_isinstance : mg "isinstance" = none
  f_all : mg "all" = none
  f_any : mg "any" = none
  f_int : mg "int" = none
  f_str : mg "str" = none
  f_bool : mg "bool" = none
  f_list : mg "list" = none
  f_tuple : mg "tuple" = none
  f_range : mg "range" = none
  f_enumerate : mg "enumerate" = none
  f_zip : mg "zip" = none
  f_ValueError : mg "ValueError" = none
  c_LETTERS : ∃ t, mg "LETTERS" = some (.str (S [97, 98, 99, 100, 101, 102, 103, 104, 105, 106, 107, 108, 109, 110, 111, 112, 113, 114, 115, 116, 117, 118, 119, 120, 121, 122]) t)
  c_DIGITS : ∃ t, mg "DIGITS" = some (.str (S [48, 49, 50, 51, 52, 53, 54, 55, 56, 57]) t)
  c_MOST_WORD : ∃ t, mg "MOST_WORD" = some (.int 12 t)
  c_MOST_DEPTH : ∃ t, mg "MOST_DEPTH" = some (.int 1000 t)
  c_MOST_DIGITS : ∃ t, mg "MOST_DIGITS" = some (.int 4000 t)
  g_MARKS : mg "MARKS" = some (.ref (He.ga K "MARKS"))
  g_is_whole : mg "is_whole" = some (.ref (He.ga K "is_whole"))
  g_same : mg "same" = some (.ref (He.ga K "same"))
  g_is_word : mg "is_word" = some (.ref (He.ga K "is_word"))
  g_is_short : mg "is_short" = some (.ref (He.ga K "is_short"))
  g_write_data : mg "write_data" = some (.ref (He.ga K "write_data"))
  g_read_whole : mg "read_whole" = some (.ref (He.ga K "read_whole"))
  g_pieces_of : mg "pieces_of" = some (.ref (He.ga K "pieces_of"))
  g_read_data : mg "read_data" = some (.ref (He.ga K "read_data"))
  g_is_text : mg "is_text" = some (.ref (He.ga K "is_text"))
  g_write_diary : mg "write_diary" = some (.ref (He.ga K "write_diary"))
  g_read_part : mg "read_part" = some (.ref (He.ga K "read_part"))
  g_read_diary : mg "read_diary" = some (.ref (He.ga K "read_diary"))
  g__law_draw : mg "_law_draw" = some (.ref (He.ga K "_law_draw"))
  g__law_take : mg "_law_take" = some (.ref (He.ga K "_law_take"))
  g__law_data : mg "_law_data" = some (.ref (He.ga K "_law_data"))
  g__law_is_word : mg "_law_is_word" = some (.ref (He.ga K "_law_is_word"))
  g__law_read : mg "_law_read" = some (.ref (He.ga K "_law_read"))
  g__law_due : mg "_law_due" = some (.ref (He.ga K "_law_due"))
  g__law_told : mg "_law_told" = some (.ref (He.ga K "_law_told"))
  g__law_fits : mg "_law_fits" = some (.ref (He.ga K "_law_fits"))
  g_law : mg "law" = some (.ref (He.ga K "law"))
  g_Malformed : mg "Malformed" = some (.ref (He.ga K "Malformed"))
  g_DataReader : mg "DataReader" = some (.ref (He.ga K "DataReader"))
  cl_DataReader : Cls K (He.ga K "DataReader")
  mk_DataReader : Mk K (He.ga K "DataReader") (He.ma K (He.ga K "DataReader") "__init__")
  mt_DataReader___init__ : Meth K (He.ga K "DataReader") "__init__" (He.ma K (He.ga K "DataReader") "__init__")
  mt_DataReader_item : Meth K (He.ga K "DataReader") "item" (He.ma K (He.ga K "DataReader") "item")
  mt_DataReader_open_one : Meth K (He.ga K "DataReader") "open_one" (He.ma K (He.ga K "DataReader") "open_one")
  mt_DataReader_close_one : Meth K (He.ga K "DataReader") "close_one" (He.ma K (He.ga K "DataReader") "close_one")
  mt_DataReader_comma : Meth K (He.ga K "DataReader") "comma" (He.ma K (He.ga K "DataReader") "comma")
  mt_DataReader_take : Meth K (He.ga K "DataReader") "take" (He.ma K (He.ga K "DataReader") "take")
  na_DataReader_tuples : NoAttr K (He.ga K "DataReader") "tuples"
  na_DataReader_ready : NoAttr K (He.ga K "DataReader") "ready"
  na_DataReader_told : NoAttr K (He.ga K "DataReader") "told"
  g_Reply : mg "Reply" = some (.ref (He.ga K "Reply"))
  cl_Reply : Cls K (He.ga K "Reply")
  mk_Reply : Mk K (He.ga K "Reply") (He.ma K (He.ga K "Reply") "__init__")
  mt_Reply___init__ : Meth K (He.ga K "Reply") "__init__" (He.ma K (He.ga K "Reply") "__init__")
  mt_Reply___eq__ : Meth K (He.ga K "Reply") "__eq__" (He.ma K (He.ga K "Reply") "__eq__")
  na_Reply_kind : NoAttr K (He.ga K "Reply") "kind"
  na_Reply_text : NoAttr K (He.ga K "Reply") "text"
  na_Reply_data : NoAttr K (He.ga K "Reply") "data"
  d_is_whole : ∃ fd, FunD K "is_whole" "is_whole" (defArgs s_is_whole) (defBody s_is_whole) (defScope s_is_whole) [] [] (He.ga K "is_whole") fd
  d_same : ∃ fd, FunD K "same" "same" (defArgs s_same) (defBody s_same) (defScope s_same) [] [] (He.ga K "same") fd
  d_is_word : ∃ fd, FunD K "is_word" "is_word" (defArgs s_is_word) (defBody s_is_word) (defScope s_is_word) [] [] (He.ga K "is_word") fd
  d_is_short : ∃ fd, FunD K "is_short" "is_short" (defArgs s_is_short) (defBody s_is_short) (defScope s_is_short) [] [] (He.ga K "is_short") fd
  d_write_data : ∃ fd, FunD K "write_data" "write_data" (defArgs s_write_data) (defBody s_write_data) (defScope s_write_data) [] [] (He.ga K "write_data") fd
  d_read_whole : ∃ fd, FunD K "read_whole" "read_whole" (defArgs s_read_whole) (defBody s_read_whole) (defScope s_read_whole) [] [] (He.ga K "read_whole") fd
  d_pieces_of : ∃ fd, FunD K "pieces_of" "pieces_of" (defArgs s_pieces_of) (defBody s_pieces_of) (defScope s_pieces_of) [] [] (He.ga K "pieces_of") fd
  d_read_data : ∃ fd, FunD K "read_data" "read_data" (defArgs s_read_data) (defBody s_read_data) (defScope s_read_data) [] [] (He.ga K "read_data") fd
  d_is_text : ∃ fd, FunD K "is_text" "is_text" (defArgs s_is_text) (defBody s_is_text) (defScope s_is_text) [] [] (He.ga K "is_text") fd
  d_write_diary : ∃ fd, FunD K "write_diary" "write_diary" (defArgs s_write_diary) (defBody s_write_diary) (defScope s_write_diary) [] [] (He.ga K "write_diary") fd
  d_read_part : ∃ fd, FunD K "read_part" "read_part" (defArgs s_read_part) (defBody s_read_part) (defScope s_read_part) [] [] (He.ga K "read_part") fd
  d_read_diary : ∃ fd, FunD K "read_diary" "read_diary" (defArgs s_read_diary) (defBody s_read_diary) (defScope s_read_diary) [] [] (He.ga K "read_diary") fd
  d__law_draw : ∃ fd, FunD K "_law_draw" "_law_draw" (defArgs s__law_draw) (defBody s__law_draw) (defScope s__law_draw) [] [] (He.ga K "_law_draw") fd
  d__law_take : ∃ fd, FunD K "_law_take" "_law_take" (defArgs s__law_take) (defBody s__law_take) (defScope s__law_take) [] [] (He.ga K "_law_take") fd
  d__law_data : ∃ fd, FunD K "_law_data" "_law_data" (defArgs s__law_data) (defBody s__law_data) (defScope s__law_data) [] [] (He.ga K "_law_data") fd
  d__law_is_word : ∃ fd, FunD K "_law_is_word" "_law_is_word" (defArgs s__law_is_word) (defBody s__law_is_word) (defScope s__law_is_word) [] [] (He.ga K "_law_is_word") fd
  d__law_read : ∃ fd, FunD K "_law_read" "_law_read" (defArgs s__law_read) (defBody s__law_read) (defScope s__law_read) [] [] (He.ga K "_law_read") fd
  d__law_due : ∃ fd, FunD K "_law_due" "_law_due" (defArgs s__law_due) (defBody s__law_due) (defScope s__law_due) [] [] (He.ga K "_law_due") fd
  d__law_told : ∃ fd, FunD K "_law_told" "_law_told" (defArgs s__law_told) (defBody s__law_told) (defScope s__law_told) [] [] (He.ga K "_law_told") fd
  d__law_fits : ∃ fd, FunD K "_law_fits" "_law_fits" (defArgs s__law_fits) (defBody s__law_fits) (defScope s__law_fits) [] [] (He.ga K "_law_fits") fd
  d_law : ∃ fd, FunD K "law" "law" (defArgs s_law) (defBody s_law) (defScope s_law) [] [] (He.ga K "law") fd
  d_DataReader___init__ : ∃ fd, FunD K "__init__" "DataReader.__init__" (defArgs s_DataReader___init__) (defBody s_DataReader___init__) (defScope s_DataReader___init__) [] [] (He.ma K (He.ga K "DataReader") "__init__") fd
  d_DataReader_item : ∃ fd, FunD K "item" "DataReader.item" (defArgs s_DataReader_item) (defBody s_DataReader_item) (defScope s_DataReader_item) [] [] (He.ma K (He.ga K "DataReader") "item") fd
  d_DataReader_open_one : ∃ fd, FunD K "open_one" "DataReader.open_one" (defArgs s_DataReader_open_one) (defBody s_DataReader_open_one) (defScope s_DataReader_open_one) [] [] (He.ma K (He.ga K "DataReader") "open_one") fd
  d_DataReader_close_one : ∃ fd, FunD K "close_one" "DataReader.close_one" (defArgs s_DataReader_close_one) (defBody s_DataReader_close_one) (defScope s_DataReader_close_one) [] [] (He.ma K (He.ga K "DataReader") "close_one") fd
  d_DataReader_comma : ∃ fd, FunD K "comma" "DataReader.comma" (defArgs s_DataReader_comma) (defBody s_DataReader_comma) (defScope s_DataReader_comma) [] [] (He.ma K (He.ga K "DataReader") "comma") fd
  d_DataReader_take : ∃ fd, FunD K "take" "DataReader.take" (defArgs s_DataReader_take) (defBody s_DataReader_take) (defScope s_DataReader_take) [] [] (He.ma K (He.ga K "DataReader") "take") fd
  d_Reply___init__ : ∃ fd, FunD K "__init__" "Reply.__init__" (defArgs s_Reply___init__) (defBody s_Reply___init__) (defScope s_Reply___init__) (d_Reply___init__.dvs K) [] (He.ma K (He.ga K "Reply") "__init__") fd
  d_Reply___eq__ : ∃ fd, FunD K "__eq__" "Reply.__eq__" (defArgs s_Reply___eq__) (defBody s_Reply___eq__) (defScope s_Reply___eq__) [] [] (He.ma K (He.ga K "Reply") "__eq__") fd
  x_Malformed : PySem.W.excIn K (He.ga K "Malformed") [.type "ValueError", .type "Exception", .type "BaseException", .type "object"] "ValueError.__new__" = true
  k_Malformed : PySem.W.keepIn K (.ref (He.ga K "Malformed")) = true
  b_Malformed : PySem.W.subIn K (.ref (He.ga K "Malformed")) (.type "BaseException") = some true
  t_Malformed : PySem.W.typeIn K (.ref (He.ga K "Malformed")) = some (.type "type")
  e_Malformed : PySem.W.exmOne K (.ref (He.ga K "Malformed")) (.ref (He.ga K "Malformed")) = some true
  m_MARKS : tupB K (He.ga K "MARKS") [.str (S [62, 32]), .str (S [61, 32]), .str (S [35, 32])] = true
  s_Malformed : strCB K (He.ga K "Malformed") = true
  i_Reply : isoB K (He.ga K "Reply") = true
  m_Reply___init___1 : tupB K (He.dflAt ("Reply", some "__init__") 1 K) [] = true
theorem txt_mk {K : PySem.W.Frag} {mg : Str → Option Value} {h : Heap} (X : K.In h) (G : h.Ns mainGlobals mg) (c : He.SaysD fa fn K) (cx : exB K = true) : Txt K mg := by
  have cx := cx
  unfold exB at cx
  simp only [Bool.and_eq_true, decide_eq_true_eq] at cx
  obtain ⟨x0, x1, x2, x3, x4, x5, x6, x7, x8⟩ := cx
  exact ⟨He.free_ok X G (c.fact 0 (f := .free "len") rfl),
    He.free_ok X G (c.fact 1 (f := .free "abs") rfl),
    He.free_ok X G (c.fact 2 (f := .free "isinstance") rfl),
    He.free_ok X G (c.fact 3 (f := .free "all") rfl),
    He.free_ok X G (c.fact 4 (f := .free "any") rfl),
    He.free_ok X G (c.fact 5 (f := .free "int") rfl),
    He.free_ok X G (c.fact 6 (f := .free "str") rfl),
    He.free_ok X G (c.fact 7 (f := .free "bool") rfl),
    He.free_ok X G (c.fact 8 (f := .free "list") rfl),
    He.free_ok X G (c.fact 9 (f := .free "tuple") rfl),
    He.free_ok X G (c.fact 10 (f := .free "range") rfl),
    He.free_ok X G (c.fact 11 (f := .free "enumerate") rfl),
    He.free_ok X G (c.fact 12 (f := .free "zip") rfl),
    He.free_ok X G (c.fact 13 (f := .free "ValueError") rfl),
    He.str_ok X G (c.fact 14 (f := .str "LETTERS" (S [97, 98, 99, 100, 101, 102, 103, 104, 105, 106, 107, 108, 109, 110, 111, 112, 113, 114, 115, 116, 117, 118, 119, 120, 121, 122])) rfl),
    He.str_ok X G (c.fact 15 (f := .str "DIGITS" (S [48, 49, 50, 51, 52, 53, 54, 55, 56, 57])) rfl),
    He.int_ok X G (c.fact 16 (f := .int "MOST_WORD" 12) rfl),
    He.int_ok X G (c.fact 17 (f := .int "MOST_DEPTH" 1000) rfl),
    He.int_ok X G (c.fact 18 (f := .int "MOST_DIGITS" 4000) rfl),
    He.glo_ok X G (c.fact 19 (f := .glo "MARKS") rfl),
    He.glo_ok X G (c.fact 20 (f := .glo "is_whole") rfl),
    He.glo_ok X G (c.fact 21 (f := .glo "same") rfl),
    He.glo_ok X G (c.fact 22 (f := .glo "is_word") rfl),
    He.glo_ok X G (c.fact 23 (f := .glo "is_short") rfl),
    He.glo_ok X G (c.fact 24 (f := .glo "write_data") rfl),
    He.glo_ok X G (c.fact 25 (f := .glo "read_whole") rfl),
    He.glo_ok X G (c.fact 26 (f := .glo "pieces_of") rfl),
    He.glo_ok X G (c.fact 27 (f := .glo "read_data") rfl),
    He.glo_ok X G (c.fact 28 (f := .glo "is_text") rfl),
    He.glo_ok X G (c.fact 29 (f := .glo "write_diary") rfl),
    He.glo_ok X G (c.fact 30 (f := .glo "read_part") rfl),
    He.glo_ok X G (c.fact 31 (f := .glo "read_diary") rfl),
    He.glo_ok X G (c.fact 32 (f := .glo "_law_draw") rfl),
    He.glo_ok X G (c.fact 33 (f := .glo "_law_take") rfl),
    He.glo_ok X G (c.fact 34 (f := .glo "_law_data") rfl),
    He.glo_ok X G (c.fact 35 (f := .glo "_law_is_word") rfl),
    He.glo_ok X G (c.fact 36 (f := .glo "_law_read") rfl),
    He.glo_ok X G (c.fact 37 (f := .glo "_law_due") rfl),
    He.glo_ok X G (c.fact 38 (f := .glo "_law_told") rfl),
    He.glo_ok X G (c.fact 39 (f := .glo "_law_fits") rfl),
    He.glo_ok X G (c.fact 40 (f := .glo "law") rfl),
    He.glo_ok X G (c.fact 41 (f := .glo "Malformed") rfl),
    He.glo_ok X G (c.fact 42 (f := .glo "DataReader") rfl),
    He.cls_ok (c.fact 43 (f := .cls "DataReader") rfl),
    He.mkr_ok (c.fact 44 (f := .mkr "DataReader") rfl),
    He.meth_ok (c.fact 45 (f := .meth "DataReader" "__init__") rfl),
    He.meth_ok (c.fact 46 (f := .meth "DataReader" "item") rfl),
    He.meth_ok (c.fact 47 (f := .meth "DataReader" "open_one") rfl),
    He.meth_ok (c.fact 48 (f := .meth "DataReader" "close_one") rfl),
    He.meth_ok (c.fact 49 (f := .meth "DataReader" "comma") rfl),
    He.meth_ok (c.fact 50 (f := .meth "DataReader" "take") rfl),
    He.noat_ok (c.fact 51 (f := .noat "DataReader" "tuples") rfl),
    He.noat_ok (c.fact 52 (f := .noat "DataReader" "ready") rfl),
    He.noat_ok (c.fact 53 (f := .noat "DataReader" "told") rfl),
    He.glo_ok X G (c.fact 54 (f := .glo "Reply") rfl),
    He.cls_ok (c.fact 55 (f := .cls "Reply") rfl),
    He.mkr_ok (c.fact 56 (f := .mkr "Reply") rfl),
    He.meth_ok (c.fact 57 (f := .meth "Reply" "__init__") rfl),
    He.meth_ok (c.fact 58 (f := .meth "Reply" "__eq__") rfl),
    He.noat_ok (c.fact 59 (f := .noat "Reply" "kind") rfl),
    He.noat_ok (c.fact 60 (f := .noat "Reply" "text") rfl),
    He.noat_ok (c.fact 61 (f := .noat "Reply" "data") rfl),
    c.def_ 0 (d := d_is_whole) rfl,
    c.def_ 1 (d := d_same) rfl,
    c.def_ 2 (d := d_is_word) rfl,
    c.def_ 3 (d := d_is_short) rfl,
    c.def_ 4 (d := d_write_data) rfl,
    c.def_ 5 (d := d_read_whole) rfl,
    c.def_ 6 (d := d_pieces_of) rfl,
    c.def_ 7 (d := d_read_data) rfl,
    c.def_ 8 (d := d_is_text) rfl,
    c.def_ 9 (d := d_write_diary) rfl,
    c.def_ 10 (d := d_read_part) rfl,
    c.def_ 11 (d := d_read_diary) rfl,
    c.def_ 12 (d := d__law_draw) rfl,
    c.def_ 13 (d := d__law_take) rfl,
    c.def_ 14 (d := d__law_data) rfl,
    c.def_ 15 (d := d__law_is_word) rfl,
    c.def_ 16 (d := d__law_read) rfl,
    c.def_ 17 (d := d__law_due) rfl,
    c.def_ 18 (d := d__law_told) rfl,
    c.def_ 19 (d := d__law_fits) rfl,
    c.def_ 20 (d := d_law) rfl,
    c.def_ 21 (d := d_DataReader___init__) rfl,
    c.def_ 22 (d := d_DataReader_item) rfl,
    c.def_ 23 (d := d_DataReader_open_one) rfl,
    c.def_ 24 (d := d_DataReader_close_one) rfl,
    c.def_ 25 (d := d_DataReader_comma) rfl,
    c.def_ 26 (d := d_DataReader_take) rfl,
    c.def_ 27 (d := d_Reply___init__) rfl,
    c.def_ 28 (d := d_Reply___eq__) rfl,
    x0,
    x1,
    x2,
    x3,
    x4,
    x5,
    x6,
    x7,
    x8⟩
local macro_rules
  | `(tactic| walk_at "g1") => `(tactic| with_reducible (first
    | refine rd_v0 ?_ | refine rd_v1 ?_ | refine rd_v2 ?_ | refine rd_v3 ?_ | refine rd_v4 ?_ | refine rd_v5 ?_ | refine rd_v6 ?_ | refine rd_v7 ?_ | refine rd_v8 ?_ | refine rd_v9 ?_ | refine rd_v10 ?_ | refine rd_v11 ?_ | refine rd_v12 ?_ | refine rd_v13 ?_ | refine rd_v14 ?_
    | refine rd_c ?_ | refine rd_op ?_ | refine rd_un ?_ | refine rd_nil ?_ | refine rd_cons ?_ | refine rd_cb ?_ | refine rd_fn ?_
    | refine rd_test ?_ | refine rd_tB ?_ | refine rd_bl ?_ | refine rd_int ?_ | refine rd_istr ?_ | refine rd_exstr ?_ | refine rd_exstr1 ?_
    | refine rd_and ?_ | refine rd_or ?_ | refine rd_not ?_ | refine rd_andV ?_ | refine rd_orV ?_ | refine rd_notV ?_ | refine rd_chain ?_ | refine rd_ifE ?_
    | refine rd_slice ?_ | refine rd_nopart ?_ | refine rd_part ?_ | refine rd_bm ?_ | refine rd_bm0 ?_ | refine rd_m1 ?_ | refine rd_fld ?_ | refine rd_sfld ?_
    | refine rd_seq ?_ | refine rd_next ?_ | refine rd_brk ?_ | refine rd_cont ?_ | refine rd_asg ?_ | refine rd_drop ?_ | refine rd_ret ?_ | refine rd_retN ?_ | refine rd_ifS ?_
    | refine rd_g0 ?_ | refine rd_g1 ?_ | refine rd_g2 ?_ | refine rd_g3 ?_ | refine rd_g4 ?_ | refine rd_g5 ?_ | refine rd_g6 ?_ | refine rd_g7 ?_ | refine rd_g8 ?_ | refine rd_g9 ?_ | refine rd_g10 ?_ | refine rd_g11 ?_ | refine rd_g12 ?_ | refine rd_g13 ?_ | refine rd_g14 ?_
    | refine rd_a0 ?_ | refine rd_a1 ?_ | refine rd_a2 ?_ | refine rd_a3 ?_ | refine rd_a4 ?_ | refine rd_a5 ?_ | refine rd_a6 ?_
    | refine rd_for ?_ | refine rd_iList ?_ | refine rd_iTup ?_ | refine rd_iStr ?_ | refine rd_iEnS ?_ | refine rd_rng1 ?_ | refine rd_rng2 ?_ | refine rd_lc ?_ | refine rd_yes ?_
    | refine rd_gcons ?_ | refine rd_gnil ?_ | refine rd_par ?_ | refine rd_two ?_ | refine rd_par3 ?_ | refine rd_three ?_ | refine rd_seti ?_
    | refine rd_tup ?_ | refine rd_lst ?_ | refine rd_mt ?_ | refine rd_mk ?_
    | refine uAdd_i ?_ | refine uSub_i ?_ | refine uNeg_i ?_ | refine uEq_i ?_ | refine uNe_i ?_ | refine uEq_s ?_ | refine uNe_s ?_ | refine uLt_i ?_ | refine uLe_i ?_ | refine uGt_i ?_ | refine uGe_i ?_ | refine uLe_c ?_
    | refine uIsN_v ?_ | refine uNotN_v ?_ | refine uIn_c ?_ | refine uNin_c ?_ | refine uInt_i ?_ | refine ipAdd_i ?_ | refine ipSub_i ?_))
  | `(tactic| walk_at "h1") => `(tactic| with_reducible (first
    | refine rd_v0 ?_ | refine rd_v1 ?_ | refine rd_v2 ?_ | refine rd_v3 ?_ | refine rd_v4 ?_ | refine rd_v5 ?_ | refine rd_v6 ?_ | refine rd_v7 ?_ | refine rd_v8 ?_ | refine rd_v9 ?_ | refine rd_v10 ?_ | refine rd_v11 ?_ | refine rd_v12 ?_ | refine rd_v13 ?_ | refine rd_v14 ?_
    | refine rd_c ?_ | refine rd_op ?_ | refine rd_un ?_ | refine rd_nil ?_ | refine rd_cons ?_ | refine rd_cb ?_ | refine rd_fn ?_
    | refine rd_test ?_ | refine rd_tB ?_ | refine rd_bl ?_ | refine rd_int ?_ | refine rd_istr ?_ | refine rd_exstr ?_ | refine rd_exstr1 ?_
    | refine rd_and ?_ | refine rd_or ?_ | refine rd_not ?_ | refine rd_andV ?_ | refine rd_orV ?_ | refine rd_notV ?_ | refine rd_chain ?_ | refine rd_ifE ?_
    | refine rd_slice ?_ | refine rd_nopart ?_ | refine rd_part ?_ | refine rd_bm ?_ | refine rd_bm0 ?_ | refine rd_m1 ?_ | refine rd_fld ?_ | refine rd_sfld ?_
    | refine rd_seq ?_ | refine rd_next ?_ | refine rd_brk ?_ | refine rd_cont ?_ | refine rd_asg ?_ | refine rd_drop ?_ | refine rd_ret ?_ | refine rd_retN ?_
    | refine rd_g0 ?_ | refine rd_g1 ?_ | refine rd_g2 ?_ | refine rd_g3 ?_ | refine rd_g4 ?_ | refine rd_g5 ?_ | refine rd_g6 ?_ | refine rd_g7 ?_ | refine rd_g8 ?_ | refine rd_g9 ?_ | refine rd_g10 ?_ | refine rd_g11 ?_ | refine rd_g12 ?_ | refine rd_g13 ?_ | refine rd_g14 ?_
    | refine rd_a0 ?_ | refine rd_a1 ?_ | refine rd_a2 ?_ | refine rd_a3 ?_ | refine rd_a4 ?_ | refine rd_a5 ?_ | refine rd_a6 ?_
    | refine rd_for ?_ | refine rd_iList ?_ | refine rd_iTup ?_ | refine rd_iStr ?_ | refine rd_iEnS ?_ | refine rd_rng1 ?_ | refine rd_rng2 ?_ | refine rd_lc ?_ | refine rd_yes ?_
    | refine rd_gcons ?_ | refine rd_gnil ?_ | refine rd_par ?_ | refine rd_two ?_ | refine rd_par3 ?_ | refine rd_three ?_ | refine rd_seti ?_
    | refine rd_tup ?_ | refine rd_lst ?_ | refine rd_mt ?_ | refine rd_mk ?_
    | refine uAdd_i ?_ | refine uSub_i ?_ | refine uNeg_i ?_ | refine uEq_i ?_ | refine uNe_i ?_ | refine uEq_s ?_ | refine uNe_s ?_ | refine uLt_i ?_ | refine uLe_i ?_ | refine uGt_i ?_ | refine uGe_i ?_ | refine uLe_c ?_
    | refine uIsN_v ?_ | refine uNotN_v ?_ | refine uIn_c ?_ | refine uNin_c ?_ | refine uInt_i ?_ | refine ipAdd_i ?_ | refine ipSub_i ?_))
  | `(tactic| walk_at "gs") => `(tactic| repeat (walk_at "h1"))
  | `(tactic| walk_at "go") => `(tactic| repeat (walk_at "g1"))
def wordP : PyData → Bool
  | .str s => DM.wordOk s.cps.toList
  | _ => false
def lenOk : PyData → Prop
  | .str s => s.length ≤ sizeLine
  | _ => True
/-- called with one value, plain data; it answers by its data alone -/
def spB (K : PySem.W.Frag) (f : PyData → Bool) : Sp := fun vs H Q _ => ∃ v d, vs = [v] ∧ Dp K H v d ∧ lenOk d ∧ ∀ H', Same H H' → Q (.bl (f d)) H'
def wholeP : PyData → Bool
  | .int _ => true
  | _ => false
section
variable {P : Program} {w : World} {K : PySem.W.Frag} {mg : Str → Option Value} {base : Heap}
theorem ok_is_whole (T : Txt K mg) : Fnn P w K mg base "is_whole" 1 P_is_whole (spB K wholeP) := by
  refine mkFnn T.d_is_whole T.g_is_whole sc_is_whole (fun _ _ _ _ _ _ us hl => match us, hl with | [_], _ => rfl) (fun vs H Q E h => ?_) (fun cdv A outer s H vs Q E hr h => ⟨_, ((pss_one (ps_ret (pe_and (pe_callB (kC (K := K) rIsi call_isi rfl) rfl T.f_isinstance boot_isinstance (pa_cons (pv 0) (pa_cons (pe_bltn (v := .ty "int") rfl T.f_int boot_int rfl) pa_nil))) (pe_one (pe_not (pe_callB (kC (K := K) rIsi call_isi rfl) rfl T.f_isinstance boot_isinstance (pa_cons (pv 0) (pa_cons (pe_bltn (v := .ty "bool") rfl T.f_bool boot_bool rfl) pa_nil))))))))), ?_⟩)
  · obtain ⟨v, d, rfl, _⟩ := h
    rfl
  · obtain ⟨v, d, rfl, hd, _, k⟩ := h
    rw [show start N_is_whole [v] = [some v] from rfl]
    walk_at "go"
    cases hd with
    | int i =>
      refine uIsi_D (.int i) (b := true) rfl ?_
      walk_at "go"
      refine ift rfl ?_
      walk_at "go"
      refine uIsi_D (.int i) (b := false) rfl ?_
      walk_at "go"
      exact k _ (.refl _)
    | bl b =>
      refine uIsi_D (.bl b) (b := true) rfl ?_
      walk_at "go"
      refine ift rfl ?_
      walk_at "go"
      refine uIsi_D (.bl b) (b := true) rfl ?_
      walk_at "go"
      exact k _ (.refl _)
    | non =>
      refine uIsi_D .non (b := false) rfl ?_
      walk_at "go"
      exact iff_ rfl (k _ (.refl _))
    | str x =>
      refine uIsi_D (.str x) (b := false) rfl ?_
      walk_at "go"
      exact iff_ rfl (k _ (.refl _))
    | lst q a =>
      refine uIsi_D (.lst q a) (b := false) rfl ?_
      walk_at "go"
      exact iff_ rfl (k _ (.refl _))
    | tup q a =>
      refine uIsi_D (.tup q a) (b := false) rfl ?_
      walk_at "go"
      exact iff_ rfl (k _ (.refl _))
end
abbrev Lets : List Nat := [97, 98, 99, 100, 101, 102, 103, 104, 105, 106, 107, 108, 109, 110, 111, 112, 113, 114, 115, 116, 117, 118, 119, 120, 121, 122]
abbrev Digs : List Nat := [48, 49, 50, 51, 52, 53, 54, 55, 56, 57]
theorem mem_lets (c : Nat) : decide (c ∈ Lets) = DM.letter c := by
  unfold DM.letter
  rw [← Bool.decide_and]
  refine decide_eq_decide.mpr ?_
  simp only [List.mem_cons, List.not_mem_nil, or_false]
  omega
theorem mem_digs (c : Nat) : decide (c ∈ Digs) = DM.digit c := by
  unfold DM.digit
  rw [← Bool.decide_and]
  refine decide_eq_decide.mpr ?_
  simp only [List.mem_cons, List.not_mem_nil, or_false]
  omega
theorem orB {a b : Bool} {Q : Bool → Prop} (h : Q (a || b)) : if a = true then Q true else Q b := by
  cases a
  · exact iff_ rfl h
  · exact ift rfl h
theorem wordOk_cons {c : Nat} {r : List Nat} : DM.wordOk (c :: r) = (DM.letter c && ((c :: r).all DM.wsign && decide ((c :: r).length ≤ 12))) := rfl
theorem at_0 {α : Type} {c : α} {r : List α} : atI (c :: r) 0 = some c := by
  unfold atI ixN
  simp
section
variable {P : Program} {w : World} {K : PySem.W.Frag} {mg : Str → Option Value} {base : Heap}
theorem ok_is_word (T : Txt K mg) : Fnn P w K mg base "is_word" 1 P_is_word (spB K wordP) := by
  refine mkFnn T.d_is_word T.g_is_word sc_is_word (fun _ _ _ _ _ _ us hl => match us, hl with | [_], _ => rfl) (fun vs H Q E h => ?_) (fun cdv A outer s H vs Q E hr h => ⟨_, ((pss_cons (ps_if (PW.pt (pw_or (pt_not (pt_val (pe_callB (kC (K := K) rIsi call_isi rfl) rfl T.f_isinstance boot_isinstance (pa_cons (pv 0) (pa_cons (pe_bltn (v := .ty "str") rfl T.f_str boot_str rfl) pa_nil))))) (pw_or (pt_not (pt_chain op_uLe op_uLe pe_int (pe_callB (kC (K := K) uLen cr_uLen rfl) rfl T.f_len boot_len (pa_cons (pv 0) pa_nil)) (pe_gI rfl T.c_MOST_WORD))) (pw_or1 (pt_cmpR (kOp (K := K) uNin op_uNin rfl) (pe_ix (kIx (K := K) rIx ix_u rfl) (pv 0) pe_int (fun _ _ => rfl)) (pe_gS rfl T.c_LETTERS) (by with_unfolding_all rfl)))))) (pss_one (ps_ret pe_bl)) pss_nil)
      (pss_one (ps_ret (pe_callB (kC (K := K) rAll (cr_all rfl) rfl) rfl T.f_all boot_all (pa_cons (pe_lc (own := [("sign", 1)]) (g := gName 1) (tt := tYes) rfl sc_is_word.nd (pi_str (pv 0)) (blkOk_by (N := N_is_word) (sc := defScope s_is_word) (by decide +kernel)) (fun _ _ _ _ _ => pg_name (i := 1) sc_is_word.nd rfl (Or.inl rfl)) (fun _ _ _ _ _ => pts_nil) (fun _ _ _ _ _ => (pe_or (pe_cmpR (kOp (K := K) uIn op_uIn rfl) (pv 1) (pe_gS rfl T.c_LETTERS) (by with_unfolding_all rfl)) (pe_one (pe_cmpR (kOp (K := K) uIn op_uIn rfl) (pv 1) (pe_gS rfl T.c_DIGITS) (by with_unfolding_all rfl)))))) pa_nil)))))), ?_⟩)
  · obtain ⟨v, d, rfl, _⟩ := h
    rfl
  · obtain ⟨v, d, rfl, hd, hz, k⟩ := h
    rw [show start N_is_word [v] = [some v, none] from rfl]
    walk_at "go"
    cases hd with
    | str x =>
      obtain ⟨l, rfl⟩ : ∃ l, x = S l := ⟨_, (S_eq x).symm⟩
      have hz : l.length ≤ sizeLine := hz
      refine uIsi_D (.str _) (b := true) rfl ?_
      walk_at "go"
      refine iff_ rfl ?_
      walk_at "go"
      refine uLen_s hz ?_
      walk_at "go"
      cases l with
      | nil =>
        refine iff_ rfl ?_
        walk_at "go"
        refine ift rfl ?_
        walk_at "go"
        refine ift rfl ?_
        walk_at "go"
        exact k _ (.refl _)
      | cons c r =>
        refine ift (decide_eq_true (by simp; omega)) ?_
        walk_at "go"
        refine ifnd (fun h => ?_) (fun h => ?_)
        · refine ift rfl ?_
          walk_at "go"
          have e : wordP (.str (S (c :: r))) = false := by
            show DM.wordOk (c :: r) = false
            rw [wordOk_cons]
            have : ¬ (c :: r).length ≤ 12 := by omega
            rw [decide_eq_false this, Bool.and_false, Bool.and_false]
          rw [← e]
          exact k _ (.refl _)
        · walk_at "go"
          refine uIx_s (c := c) hz at_0 ?_
          walk_at "go"
          rw [mem_lets]
          refine ifb (fun h1 => ?_) (fun h1 => ?_)
          · walk_at "go"
            have e : wordP (.str (S (c :: r))) = false := by
              show DM.wordOk (c :: r) = false
              rw [wordOk_cons]
              rw [Bool.not_eq_true'] at h1
              rw [h1, Bool.false_and]
            rw [← e]
            exact k _ (.refl _)
          · walk_at "go"
            intro D hD
            refine lc_its (fun c => .bl (DM.wsign c)) hz (fun _ => rfl) (fun c hc H' Q q => ?_) ?_
            · refine rd_st (σ' := [some (V.str (S (_ :: r))), some (V.str (S [c]))]) rfl ?_
              walk_at "go"
              rw [mem_lets]
              refine ifb (fun h2 => ?_) (fun h2 => ?_)
              · have e : DM.wsign c = true := by
                  unfold DM.wsign
                  rw [h2, Bool.true_or]
                rw [e] at q
                exact q
              · walk_at "go"
                rw [mem_digs]
                have e : DM.wsign c = DM.digit c := by
                  unfold DM.wsign
                  rw [h2, Bool.false_or]
                rw [e] at q
                exact q
            · walk_at "go"
              refine uAll_l (bs := (c :: r).map DM.wsign) (.inl (.inl (by rw [List.map_map]; exact upd_same))) ?_
              have e : wordP (.str (S (c :: r))) = ((c :: r).map DM.wsign).all id := by
                show DM.wordOk (c :: r) = _
                have hl : (c :: r).length ≤ 12 := by omega
                rw [Bool.not_eq_false'] at h1
                rw [wordOk_cons, h1, Bool.true_and, decide_eq_true hl, Bool.and_true, List.all_map]
                rfl
              rw [← e]
              exact k _ (Same.new hD)
    | _ =>
      refine uIsi_D (by first | exact .non | exact .bl _ | exact .int _ | exact .lst ‹_› ‹_› | exact .tup ‹_› ‹_›) (b := false) rfl ?_
      walk_at "go"
      refine ift rfl ?_
      walk_at "go"
      exact k _ (.refl _)
end
def shortP : PyData → Bool
  | .int z => DM.short z
  | _ => false
abbrev tm (i : Nat) : Int := ((10 ^ (32 * (i + 1)) : Nat) : Int)
theorem log_ten (m : Nat) : (10 ^ m).log2 < 4 * m + 1 := by
  have h0 : (10 ^ m) ≠ 0 := Nat.ne_of_gt (Nat.pow_pos (by decide))
  rw [Nat.log2_lt h0]
  have h1 : 10 ^ m ≤ 16 ^ m := Nat.pow_le_pow_left (by decide) m
  have h2 : (16 : Nat) ^ m = 2 ^ (4 * m) := by rw [Nat.pow_mul]
  have h3 : 2 ^ (4 * m) < 2 ^ (4 * m + 1) := Nat.pow_lt_pow_right (by decide) (Nat.lt_succ_self _)
  omega
theorem mulw_tm {i : Nat} (h : i < 200) : CMulW (tm i) (10 ^ (32 : Int).toNat) := by
  show (tm i).natAbs.log2 + ((10 : Int) ^ (32 : Int).toNat).natAbs.log2 < 1000000
  have e1 : (tm i).natAbs = 10 ^ (32 * (i + 1)) := rfl
  have e2 : ((10 : Int) ^ (32 : Int).toNat).natAbs = 10 ^ 32 := by decide +kernel
  rw [e1, e2]
  have h1 := log_ten (32 * (i + 1))
  have h2 := log_ten 32
  omega
theorem tm_next (i : Nat) : tm i * 10 ^ (32 : Int).toNat = tm (i + 1) := by
  show ((10 ^ (32 * (i + 1)) : Nat) : Int) * ((10 ^ 32 : Nat) : Int) = ((10 ^ (32 * (i + 1 + 1)) : Nat) : Int)
  rw [← Int.natCast_mul, ← Nat.pow_add]
  rfl
theorem tm_le (i : Nat) : tm 0 ≤ tm i := by
  refine Int.ofNat_le.mpr (Nat.pow_le_pow_right (by decide) (by omega))
section
variable {P : Program} {w : World} {K : PySem.W.Frag} {mg : Str → Option Value} {base : Heap}
theorem ok_is_short (T : Txt K mg) (F_is_whole : Fnn P w K mg base "is_whole" 1 P_is_whole (spB K wholeP)) : Fnn P w K mg base "is_short" 2 P_is_short (spB K shortP) := by
  refine mkFnn T.d_is_short T.g_is_short sc_is_short (fun _ _ _ _ _ _ us hl => match us, hl with | [_], _ => rfl) (fun vs H Q E h => ?_) (fun cdv A outer s H vs Q E hr h => ⟨_, ((pss_cons (ps_if (pt_not (pt_val (pe_fn F_is_whole (hr.mono (by omega)) rfl (pa_tk (takes_of rfl rfl rfl rfl)) (pa_cons (pv 0) pa_nil)))) (pss_one (ps_ret pe_bl)) pss_nil)
      (pss_cons (ps_set (i := 1) sc_is_short.nd rfl (by first | exact Or.inl rfl | exact Or.inr rfl) (pe_op op_uPow pe_int pe_int))
      (pss_cons (ps_if (pt_chain op_uLt op_uLt (pe_un un_uNeg (pv 1)) (pv 0) (pv 1)) (pss_one (ps_ret pe_bl)) pss_nil)
      (pss_cons (ps_for (passes_of rfl) rfl (pi_range1 rfl T.f_range (pa_cons (pe_op op_uSub (pe_op op_uDiv (pe_gI rfl T.c_MOST_DIGITS) pe_int) pe_int) pa_nil)) (pg_name (i := 2) sc_is_short.nd rfl (by first | exact Or.inl rfl | exact Or.inr rfl)) (pss_one (ps_aug (i := 1) sc_is_short.nd rfl (by first | exact Or.inl rfl | exact Or.inr rfl) (pe_op op_uPow pe_int pe_int) ip_uMul)))
      (pss_one (ps_ret (pe_chain op_uLt op_uLt (pe_un un_uNeg (pv 1)) (pv 0) (pv 1))))))))), ?_⟩)
  · obtain ⟨v, d, rfl, _⟩ := h
    rfl
  · obtain ⟨v, d, rfl, hd, hz, k⟩ := h
    rw [show start N_is_short [v] = [some v, none, none] from rfl]
    walk_at "go"
    refine ⟨v, d, rfl, hd, hz, fun H1 s1 => ?_⟩
    walk_at "go"
    cases hd with
    | int z =>
      refine iff_ rfl ?_
      walk_at "go"
      refine uPow_i (by unfold CPow; decide) ?_
      walk_at "go"
      have e0 : (10 : Int) ^ (32 : Int).toNat = tm 0 := by decide +kernel
      rw [e0]
      have loop : tSeq (tFor (iRng1 (tCons (tOp uSub (tOp uDiv (tC (.int 4000)) (tC (.int 32))) (tC (.int 1))) tNil)) (gName 2) (tAug 1 (tOp uPow (tC (.int 10)) (tC (.int 32))) ipMul)) (tRet (tChain uLt uLt (tUn uNeg (tVar 1)) (tVar 0) (tVar 1))) { nx := fun _ H' => Q .non H', rt := Q } [some (.int z), some (.int (tm 0)), none] H1 := by
        walk_at "go"
        refine uDiv_i (by decide) (by decide) ?_
        walk_at "go"
        refine ⟨_, rfl, by decide, by decide, ?_⟩
        refine fo_it walk_range (fun i σ H' => H' = H1 ∧ ∃ o, σ = [some (.int z), some (.int (tm i)), o]) ⟨rfl, _, rfl⟩ (fun _ _ _ _ _ => True.intro) ?_ ?_
        · rintro i x σ H' H2 hi ⟨rfl, o, rfl⟩ ⟨rfl, rfl⟩
          have hi : i < 124 := hi
          walk_at "go"
          refine uPow_i (by unfold CPow; decide) ?_
          refine ipMul_i (mulw_tm (by omega)) ?_
          walk_at "go"
          exact ⟨rfl, some (.int (0 + (i : Int))), by rw [← tm_next]⟩
        · rintro σ H' ⟨rfl, o, rfl⟩
          walk_at "go"
          have e124 : ((4000 : Int) / 32 - 1).toNat = 124 := by decide
          rw [e124]
          have eS : shortP (.int z) = (decide (-tm 124 < z) && decide (z < tm 124)) := rfl
          have q := k H' s1
          rw [eS] at q
          refine ifb (fun h => ?_) (fun h => ?_)
          · walk_at "go"
            rw [h, Bool.true_and] at q
            exact q
          · rw [h, Bool.false_and] at q
            exact q
      refine ifb (fun h => ?_) (fun h => ?_)
      · walk_at "go"
        refine ifb (fun h2 => ?_) (fun h2 => ?_)
        · walk_at "go"
          have e : shortP (.int z) = true := by
            show DM.short z = true
            unfold DM.short
            have h3 := of_decide_eq_true h
            have h4 := of_decide_eq_true h2
            have h5 := tm_le 124
            have h6 : -((10 ^ 4000 : Nat) : Int) < z := Int.lt_of_le_of_lt (Int.neg_le_neg h5) h3
            have h7 : z < ((10 ^ 4000 : Nat) : Int) := Int.lt_of_lt_of_le h4 h5
            rw [decide_eq_true h6, decide_eq_true h7]
            rfl
          rw [← e]
          exact k _ s1
        · exact loop
      · walk_at "go"
        refine iff_ rfl ?_
        exact loop
    | _ =>
      refine ift rfl ?_
      walk_at "go"
      exact k _ s1
end
theorem allD {l : List Nat} (h : l.all DM.digit = true) : NumText.AllDigits l := fun c hc => by
  have := List.all_eq_true.mp h c hc
  unfold DM.digit at this
  simp only [Bool.and_eq_true, decide_eq_true_eq] at this
  exact this
/-- int(text) reads what rdNum reads -/
theorem int_rd {p : List Nat} {z : Int} (h : DM.rdNum p = some z) (hl : p.length ≤ 4300) : intText? (S p) = some z := by
  obtain ⟨c1, c2, c3, e⟩ := DM.rdNum_inv h
  by_cases h45 : p.head? = some 45
  · rw [if_pos h45] at e
    obtain ⟨r, rfl⟩ := DM.head45 h45
    rw [DM.body_neg] at c1 c2 c3 e
    rw [e]
    exact intText_neg rfl (allD c2) c1 (by rw [S_len]; exact hl)
  · rw [if_neg h45] at e
    rw [DM.body_pos h45] at c1 c2 c3 e
    rw [e]
    exact intText_digits (x := S p) (allD c2) c1 (by rw [S_len]; exact hl)
theorem take1 {p : List Nat} : decide (p.take 1 = [45]) = decide (p.head? = some 45) := by
  refine decide_eq_decide.mpr ?_
  cases p with
  | nil => simp
  | cons c r => simp
def spRW (K : PySem.W.Frag) (C : Addr) : Sp := fun vs H Q E => ∃ p : List Nat, vs = [.str (S p)] ∧ p.length ≤ sizeLine ∧
  (∀ z, DM.bodyLen p ≤ 4000 → DM.rdNum p = some z → ∀ H', Same H H' → Q (.int z) H') ∧ ((4000 < DM.bodyLen p ∨ DM.rdNum p = none) → ∀ H', Same H H' → E (.ref C) none H')
section
variable {P : Program} {w : World} {K : PySem.W.Frag} {mg : Str → Option Value} {base : Heap}
theorem ok_read_whole (T : Txt K mg) (look : PySem.W.nsIn K cStatics digName = some none) : FnZ famN P w K mg base "read_whole" 1 P_read_whole (spRW K (He.ga K "Malformed")) := by
  refine mkFnZ T.d_read_whole T.g_read_whole sc_read_whole (fun _ _ _ _ _ _ us hl => match us, hl with | [_], _ => rfl) (fun vs H Q E h => ?_) (fun cdv A outer s H vs Q E hr h => ⟨_, ((pss_cons (ps_set (i := 1) sc_read_whole.nd rfl (by first | exact Or.inl rfl | exact Or.inr rfl) (pe_ifExp (pt_cmpR (kOp (K := K) uEq (op_uEq hr) rfl) (pe_slice (kSl (K := K) uSl sl_u rfl) (pv 0) po_none (po_some pe_int)) (pe_S [45] (by decide +kernel)) (nomark _)) (pe_slice (kSl (K := K) uSl sl_u rfl) (pv 0) (po_some pe_int) po_none) (pv 0)))
      (pss_cons (ps_if (PW.pt (pw_or (pt_not (pt_chain op_uLe op_uLe pe_int (pe_callB (kC (K := K) uLen cr_uLen rfl) rfl T.f_len boot_len (pa_cons (pv 1) pa_nil)) (pe_gI rfl T.c_MOST_DIGITS))) (pw_or1 (pt_not (pt_val (pe_callB (kC (K := K) rAll (cr_all rfl) rfl) rfl T.f_all boot_all (pa_cons (pe_lc (own := [("sign", 2)]) (g := gName 2) (tt := tYes) rfl sc_read_whole.nd (pi_str (pv 1)) (blkOk_by (N := N_read_whole) (sc := defScope s_read_whole) (by decide +kernel)) (fun _ _ _ _ _ => pg_name (i := 2) sc_read_whole.nd rfl (Or.inl rfl)) (fun _ _ _ _ _ => pts_nil) (fun _ _ _ _ _ => (pe_cmpR (kOp (K := K) uIn op_uIn rfl) (pv 2) (pe_gS rfl T.c_DIGITS) (by with_unfolding_all rfl)))) pa_nil))))))) (pss_one (ps_raiseZ rfl (takes_ofZ rfl rfl rfl rfl) (pmk_ownN PySem.F.excBase_ValueError T.x_Malformed T.g_Malformed T.k_Malformed (raises_own T.b_Malformed T.t_Malformed) rfl))) pss_nil)
      (pss_cons (ps_if (PW.pt (pw_and (pt_cmpR (kOp (K := K) uEq (op_uEq hr) rfl) (pe_ix (kIx (K := K) rIx ix_u rfl) (pv 1) pe_int (fun _ _ => rfl)) (pe_S [48] (by decide +kernel)) (nomark _)) (pw_and1 (pt_cmpR (kOp (K := K) uNe (op_uNe hr) rfl) (pv 0) (pe_S [48] (by decide +kernel)) (nomark _))))) (pss_one (ps_raiseZ rfl (takes_ofZ rfl rfl rfl rfl) (pmk_ownN PySem.F.excBase_ValueError T.x_Malformed T.g_Malformed T.k_Malformed (raises_own T.b_Malformed T.t_Malformed) rfl))) pss_nil)
      (pss_one (ps_ret (pe_callTy (cr_uInt look) rfl T.f_int boot_int (pa_cons (pv 0) pa_nil)))))))), ?_⟩)
  · obtain ⟨p, rfl, _⟩ := h
    rfl
  · obtain ⟨p, rfl, hz, kS, kN⟩ := h
    rw [show start N_read_whole [V.str (S p)] = [some (V.str (S p)), none, none] from rfl]
    walk_at "go"
    refine uSl_s hz ?_
    rw [show cutL p none (some 1) = p.take 1 from cut_to (i := 1)]
    walk_at "go"
    rw [take1]
    have hb : (DM.bodyOf p).length ≤ sizeLine := by
      unfold DM.bodyOf
      split
      · rw [List.length_tail]; omega
      · exact hz
    have hpl : DM.bodyLen p ≤ 4000 → p.length ≤ 4300 := fun h => by
      unfold DM.bodyLen DM.bodyOf at h
      split at h
      · rw [List.length_tail] at h; omega
      · omega
    apply ifjd
    case hb =>
      intro h r
      refine rd_v0 ?_
      refine rd_g1 ?_
      refine rds_st (σ' := [some (.str (S p)), some (.str (S (DM.bodyOf p))), none]) (by rw [DM.body_pos h]) ?_
      exact r
    case ha =>
      intro h r
      walk_at "go"
      refine uSl_s hz ?_
      rw [show cutL p (some 1) none = p.drop 1 from cut_from (i := 1)]
      refine rd_g1 ?_
      refine rds_st (σ' := [some (.str (S p)), some (.str (S (DM.bodyOf p))), none]) (by unfold DM.bodyOf; rw [if_pos h, List.drop_one]) ?_
      exact r
    case q =>
      walk_at "go"
      refine uLen_s hb ?_
      walk_at "go"
      have bad : (4000 < DM.bodyLen p ∨ DM.rdNum p = none) → E (.ref (He.ga K "Malformed")) none H := fun h => kN h _ (.refl _)
      by_cases h0 : DM.bodyOf p = []
      · have hR : DM.rdNum p = none := if_pos (.inl h0)
        rw [h0]
        refine iff_ rfl ?_
        walk_at "go"
        refine ift rfl ?_
        walk_at "go"
        refine ift rfl ?_
        exact bad (.inr hR)
      have h1 : 1 ≤ (DM.bodyOf p).length := List.length_pos_iff.mpr h0
      refine ift (decide_eq_true (by omega)) ?_
      walk_at "go"
      refine ifnd (fun h => ?_) (fun h => ?_)
      · refine ift rfl (bad (.inl (by unfold DM.bodyLen; omega)))
      have h4 : DM.bodyLen p ≤ 4000 := by unfold DM.bodyLen; omega
      walk_at "go"
      intro D hD
      refine lc_its (fun c => .bl (DM.digit c)) hb (fun _ => rfl) (fun c hc H' Q q => ?_) ?_
      · refine rd_st (σ' := [some (.str (S p)), some (.str (S (DM.bodyOf p))), some (.str (S [c]))]) rfl ?_
        walk_at "go"
        rw [mem_digs]
        exact q
      walk_at "go"
      refine uAll_l (bs := (DM.bodyOf p).map DM.digit) (.inl (.inl (by rw [List.map_map]; exact upd_same))) ?_
      rw [show ((DM.bodyOf p).map DM.digit).all id = (DM.bodyOf p).all DM.digit by rw [List.all_map]; rfl]
      walk_at "go"
      have hS := Same.new (o := .lst ((DM.bodyOf p).map fun c => V.bl (DM.digit c))) hD
      cases ha : (DM.bodyOf p).all DM.digit with
      | false =>
        refine ift rfl ?_
        exact kN (.inr (if_pos (.inr (.inl (by rw [ha]; exact Bool.false_ne_true))))) _ hS
      | true =>
        refine iff_ rfl ?_
        walk_at "go"
        obtain ⟨c, r, e⟩ : ∃ c r, DM.bodyOf p = c :: r := by
          cases q : DM.bodyOf p with
          | nil => exact absurd q h0
          | cons c r => exact ⟨c, r, rfl⟩
        refine uIx_s hb (c := c) (by rw [e]; exact at_0) ?_
        walk_at "go"
        have good : ¬ ((DM.bodyOf p).head? = some 48 ∧ p ≠ [48]) → uInt [.str (S p)] (upd H D (.lst ((DM.bodyOf p).map fun c => V.bl (DM.digit c)))) Q := fun h => by
          have hR : ∃ z, DM.rdNum p = some z := by
            unfold DM.rdNum
            rw [if_neg (by
              rintro (q | q | q)
              · exact h0 q
              · exact q ha
              · exact h q)]
            exact ⟨_, rfl⟩
          obtain ⟨z, hR⟩ := hR
          refine uInt_s (int_rd hR (hpl h4)) hz ?_
          exact kS z h4 hR _ hS
        refine ifd (fun hc => ?_) (fun hc => ?_)
        · walk_at "go"
          refine ifnd (fun hp => ?_) (fun hp => ?_)
          · have hc : c = 48 := by simpa using hc
            exact kN (.inr (if_pos (.inr (.inr ⟨by rw [e, hc]; rfl, hp⟩)))) _ hS
          · walk_at "go"
            exact good (fun q => q.2 hp)
        · refine iff_ rfl ?_
          walk_at "go"
          exact good (fun q => by
            have q1 := q.1
            rw [e] at q1
            have : c = 48 := Option.some.inj q1
            exact hc (by rw [this]))
end
abbrev txts (ls : List (List Nat)) : List V := ls.map fun l => V.str (S l)
def spPcs (K : PySem.W.Frag) : Sp := fun vs H Q _ => ∃ t : List Nat, vs = [.str (S t)] ∧ t.length ≤ 1000000 ∧ ∀ H' p, Same H H' → H p = none → H' p = some (.lst (txts (DM.pcs [] t))) → Q (.ref p) H'
theorem mem_del (c : Nat) : decide (c ∈ [91, 93, 44]) = DM.delim c := by
  unfold DM.delim
  rw [Bool.eq_iff_iff]
  simp only [decide_eq_true_eq, List.mem_cons, List.not_mem_nil, or_false, Bool.or_eq_true, beq_iff_eq, or_assoc]
theorem sz {n : Nat} (h : n ≤ 100) : n ≤ sizeLine := Nat.le_trans h (by rw [sizeLine_eq]; decide)
theorem small {n : Nat} (h : n ≤ 3000000) : n < sizeLine := Nat.lt_of_le_of_lt h (by rw [sizeLine_eq]; decide)
section
variable {P : Program} {w : World} {K : PySem.W.Frag} {mg : Str → Option Value} {base : Heap}
theorem ok_pieces_of (T : Txt K mg) : Fnn P w K mg base "pieces_of" 1 P_pieces_of (spPcs K) := by
  refine mkFnn T.d_pieces_of T.g_pieces_of sc_pieces_of (fun _ _ _ _ _ _ us hl => match us, hl with | [_], _ => rfl) (fun vs H Q E h => ?_) (fun cdv A outer s H vs Q E hr h => ⟨_, ((pss_cons (ps_par (i := 1) (j := 2) rfl sc_pieces_of.nd rfl rfl (by decide) rfl rfl (pa_cons (pe_lst pa_nil) (pa_cons pe_int pa_nil)) rfl)
      (pss_cons (ps_for (passes_of rfl) rfl (pi_enS rfl T.f_enumerate (pa_cons (pv 0) pa_nil)) (pg_tupK (K := K) rfl (pgs_cons (pg_name (i := 3) sc_pieces_of.nd rfl (by first | exact Or.inl rfl | exact Or.inr rfl)) (pgs_cons (pg_name (i := 4) sc_pieces_of.nd rfl (by first | exact Or.inl rfl | exact Or.inr rfl)) pgs_nil)) rfl) (pss_one (ps_if (pt_cmpR (kOp (K := K) uIn op_uIn rfl) (pv 4) (pe_S [91, 93, 44] (by decide +kernel)) (by with_unfolding_all rfl)) (pss_cons (ps_if (pt_cmpR op_uLt (pv 2) (pv 3) (nomark _)) (pss_one (ps_expr (pe_bmK (K := K) PySem.F.plainAttrs_list PySem.F.slot_list_append PySem.F.type_list_append mt_append (pv 1) (pa_cons (pe_slice (kSl (K := K) uSl sl_u rfl) (pv 0) (po_some (pv 2)) (po_some (pv 3))) pa_nil) rfl))) pss_nil)
      (pss_cons (ps_expr (pe_bmK (K := K) PySem.F.plainAttrs_list PySem.F.slot_list_append PySem.F.type_list_append mt_append (pv 1) (pa_cons (pv 4) pa_nil) rfl))
      (pss_one (ps_set (i := 2) sc_pieces_of.nd rfl (by first | exact Or.inl rfl | exact Or.inr rfl) (pe_op (kOp (K := K) uAdd op_uAdd rfl) (pv 3) pe_int))))) pss_nil)))
      (pss_one (ps_ret (pe_op (kOp (K := K) uAdd op_uAdd rfl) (pv 1) (pe_ifExp (pt_cmpR op_uLt (pv 2) (pe_callB (kC (K := K) uLen cr_uLen rfl) rfl T.f_len boot_len (pa_cons (pv 0) pa_nil)) (nomark _)) (pe_lst (pa_cons (pe_slice (kSl (K := K) uSl sl_u rfl) (pv 0) (po_some (pv 2)) po_none) pa_nil)) (pe_lst pa_nil)))))))), ?_⟩)
  · obtain ⟨t, rfl, _⟩ := h
    rfl
  · obtain ⟨t, rfl, hz, k⟩ := h
    have hzs : t.length ≤ sizeLine := Nat.le_of_lt (small (by omega))
    rw [show start N_pieces_of [V.str (S t)] = [some (V.str (S t)), none, none, none, none] from rfl]
    walk_at "go"
    refine ⟨sz (by simp), fun f hf => ?_⟩
    walk_at "go"
    refine fo_it walk_iten (fun i σ H' => ∃ (done : List (List Nat)) (st : Nat) (o1 o2 : Option V), σ = [some (V.str (S t)), some (.ref f), some (.int (st : Nat)), o1, o2] ∧ Same H H' ∧ H' f = some (.lst (txts done)) ∧
      st ≤ i ∧ done.length ≤ 2 * i ∧ DM.pcs [] t = done ++ DM.pcs ((t.take i).drop st) (t.drop i)) ⟨[], 0, none, none, rfl, Same.new hf, upd_same, Nat.le_refl _, Nat.le_refl _, by simp⟩ (fun _ _ _ _ _ => True.intro) ?_ ?_
    · rintro i x σ H1 H2 hi ⟨done, st, o1, o2, rfl, s1, hf1, hst, hdl, hp⟩ ⟨T', c, rfl, hT, rfl, hc⟩
      refine rd_gtup (.inl (.inl upd_same)) rfl ?_
      walk_at "go"
      rw [mem_del]
      have hfT : f ≠ T' := fun e => by rw [e, hT] at hf1; cases hf1
      have hf2 : (upd H1 T' (.tup [V.int (i : Nat), .str (S [c])])) f = some (.lst (txts done)) := by rw [upd_ne hfT]; exact hf1
      have s2 := s1.trans (Same.new (o := .tup [V.int (i : Nat), .str (S [c])]) hT)
      have hdr : t.drop i = c :: t.drop (i + 1) := by
        have hi' : i < t.length := hi
        rw [List.drop_eq_getElem_cons hi']
        rw [List.getElem?_eq_getElem hi'] at hc
        rw [Option.some.inj hc]
      have htk : t.take (i + 1) = t.take i ++ [c] := take_succ' hc
      rw [hdr] at hp
      generalize upd H1 T' (.tup [V.int (i : Nat), .str (S [c])]) = H2 at hf2 s2
      have hil : i < t.length := hi
      have htl : (t.take i).length = i := by rw [List.length_take]; omega
      refine ifb (fun hd => ?_) (fun hd => ?_)
      · -- a delimiter
        rw [DM.pcs, if_pos hd] at hp
        walk_at "go"
        refine ifd (fun hlt => ?_) (fun hlt => ?_)
        · walk_at "go"
          refine ⟨ty_l (sl hf2), ?_⟩
          walk_at "go"
          refine uSl_s hzs ?_
          rw [cut_ft]
          walk_at "go"
          refine ap_l hf2 (by rw [List.length_map]; exact small (by omega)) ?_
          walk_at "go"
          refine ⟨ty_l (sl upd_same), ?_⟩
          walk_at "go"
          refine ap_l upd_same (by rw [List.length_append, List.length_map]; exact small (by simp; omega)) ?_
          walk_at "go"
          have hne : (t.take i).drop st ≠ [] := fun e => by
            have := congrArg List.length e
            rw [List.length_drop, htl] at this
            simp at this
            omega
          rw [if_neg hne] at hp
          refine ⟨done ++ [(t.take i).drop st, [c]], i + 1, _, _, rfl, ?_, ?_, Nat.le_refl _, by simp; omega, ?_⟩
          · rw [upd_upd]
            exact Same.put s2 hf
          · rw [upd_same]
            simp [txts]
          · rw [hp, show (t.take (i + 1)).drop (i + 1) = [] from List.drop_eq_nil_of_le (by rw [List.length_take]; exact Nat.min_le_left ..)]
            simp
        · walk_at "go"
          refine ⟨ty_l (sl hf2), ?_⟩
          walk_at "go"
          refine ap_l hf2 (by rw [List.length_map]; exact small (by omega)) ?_
          walk_at "go"
          have he : (t.take i).drop st = [] := List.drop_eq_nil_of_le (by rw [List.length_take]; omega)
          rw [if_pos he] at hp
          refine ⟨done ++ [[c]], i + 1, _, _, rfl, Same.put s2 hf, ?_, Nat.le_refl _, by simp; omega, ?_⟩
          · rw [upd_same]
            simp [txts]
          · rw [hp, show (t.take (i + 1)).drop (i + 1) = [] from List.drop_eq_nil_of_le (by rw [List.length_take]; exact Nat.min_le_left ..)]
            simp
      · walk_at "go"
        rw [DM.pcs, hd] at hp
        simp only [Bool.false_eq_true, if_false] at hp
        refine ⟨done, st, _, _, rfl, s2, hf2, by omega, by omega, ?_⟩
        rw [hp, htk, List.drop_append_of_le_length (by rw [List.length_take]; omega)]
    · rintro σ H1 ⟨done, st, o1, o2, rfl, s1, hf1, hst, hdl, hp⟩
      walk_at "go"
      refine uLen_s hzs ?_
      walk_at "go"
      rw [List.take_length, List.drop_length, DM.pcs] at hp
      have fresh : ∀ (q : Addr), H1 q = none → H q = none := fun q h => s1.free h
      refine ifd (fun h => ?_) (fun h => ?_)
      · walk_at "go"
        refine uSl_s hzs ?_
        rw [cut_from]
        walk_at "go"
        refine ⟨sz (by simp), fun q hq => ?_⟩
        have hfq : f ≠ q := fun e => by rw [e, hq] at hf1; cases hf1
        refine uAdd_l (xs := txts done) (zs := [V.str (S (t.drop st))]) (by rw [upd_ne hfq]; exact hf1) upd_same ?_ (fun p hp' => ?_)
        · rw [List.length_map]
          exact Nat.le_of_lt (small (by simp; omega))
        have hne : t.drop st ≠ [] := fun e => by
          have := congrArg List.length e
          rw [List.length_drop] at this
          simp at this
          omega
        rw [if_neg hne] at hp
        have s3 := s1.trans (Same.new (o := .lst [V.str (S (t.drop st))]) hq)
        refine k _ p (s3.trans (Same.new hp')) (s3.free hp') ?_
        rw [upd_same, hp, show ∀ a b, txts (a ++ b) = txts a ++ txts b from fun _ _ => List.map_append]
        rfl
      · walk_at "go"
        refine ⟨sz (by simp), fun q hq => ?_⟩
        have hfq : f ≠ q := fun e => by rw [e, hq] at hf1; cases hf1
        refine uAdd_l (xs := txts done) (zs := []) (by rw [upd_ne hfq]; exact hf1) upd_same ?_ (fun p hp' => ?_)
        · rw [List.length_map]
          exact Nat.le_of_lt (small (by simp; omega))
        have he : t.drop st = [] := List.drop_eq_nil_of_le (by omega)
        rw [if_pos he] at hp
        have s3 := s1.trans (Same.new (o := .lst []) hq)
        refine k _ p (s3.trans (Same.new hp')) (s3.free hp') ?_
        rw [upd_same, hp, show ∀ a b, txts (a ++ b) = txts a ++ txts b from fun _ _ => List.map_append]
        rfl
end
/-! ### data of texts, numbers, tuples in the heap -/
mutual
inductive DT (H : Hp) : V → DM.D → Prop
  | s (w : List Nat) : DT H (.str (S w)) (.s w)
  | i (z : Int) : DT H (.int z) (.i z)
  | t {a : Addr} {vs : List V} {ds : List DM.D} : H a = some (.tup vs) → DTs H vs ds → DT H (.ref a) (.t ds)
inductive DTs (H : Hp) : List V → List DM.D → Prop
  | nil : DTs H [] []
  | cons {v : V} {vs : List V} {d : DM.D} {ds : List DM.D} : DT H v d → DTs H vs ds → DTs H (v :: vs) (d :: ds)
end
mutual
theorem DT.keep {H H' : Hp} (k : KeepT H H') : ∀ {v : V} {d : DM.D}, DT H v d → DT H' v d
  | _, _, .s w => .s w
  | _, _, .i z => .i z
  | _, _, .t h a => .t (k _ _ h) (DTs.keep k a)
theorem DTs.keep {H H' : Hp} (k : KeepT H H') : ∀ {v : List V} {d : List DM.D}, DTs H v d → DTs H' v d
  | _, _, .nil => .nil
  | _, _, .cons h a => .cons (DT.keep k h) (DTs.keep k a)
end
theorem DTs.snoc {H : Hp} {v : V} {d : DM.D} (h : DT H v d) : ∀ {vs : List V} {ds : List DM.D}, DTs H vs ds → DTs H (vs ++ [v]) (ds ++ [d])
  | _, _, .nil => .cons h .nil
  | _, _, .cons a b => .cons a (DTs.snoc h b)
theorem DTs.len {H : Hp} : ∀ {vs : List V} {ds : List DM.D}, DTs H vs ds → vs.length = ds.length
  | _, _, .nil => rfl
  | _, _, .cons _ b => congrArg Nat.succ (DTs.len b)
/-! ### the reader's object -/
def rF (a tl : Addr) (b : Bool) : List (Str × V) := [("tuples", .ref a), ("ready", .bl b), ("told", .ref tl)]
theorem rF_tuples {a tl : Addr} {b : Bool} : (rF a tl b).lookup ("tuples" : Str) = some (.ref a) := lk_here
theorem rF_ready {a tl : Addr} {b : Bool} : (rF a tl b).lookup ("ready" : Str) = some (.bl b) := (lk_past (by decide +kernel)).trans lk_here
theorem rF_told {a tl : Addr} {b : Bool} : (rF a tl b).lookup ("told" : Str) = some (.ref tl) := (lk_past (by decide +kernel)).trans ((lk_past (by decide +kernel)).trans lk_here)
theorem rF_no {a tl : Addr} {b : Bool} {m : Str} (h1 : (m == ("tuples" : Str)) = false) (h2 : (m == ("ready" : Str)) = false) (h3 : (m == ("told" : Str)) = false) : (rF a tl b).lookup m = none := (lk_past h1).trans ((lk_past h2).trans ((lk_past h3).trans rfl))
theorem rF_put {a tl : Addr} {b c : Bool} : putF "ready" (.bl c) (rF a tl b) = rF a tl c := (put_past (by decide +kernel)).trans (congrArg _ put_here)
/-- the rows, the innermost first: each a list of its own -/
inductive RowsAt (H0 H : Hp) (a tl : Addr) (n : Nat) : List Addr → List (List DM.D) → Prop
  | nil : RowsAt H0 H a tl n [] []
  | cons {p : Addr} {ps : List Addr} {vs : List V} {row : List DM.D} {rows : List (List DM.D)} : H0 p = none → p ≠ a → p ≠ tl → p ∉ ps → H p = some (.lst vs) → DTs H vs row → row.length ≤ n → RowsAt H0 H a tl n ps rows → RowsAt H0 H a tl n (p :: ps) (row :: rows)
theorem RowsAt.len {H0 H : Hp} {a tl : Addr} {n : Nat} : ∀ {ps : List Addr} {rows : List (List DM.D)}, RowsAt H0 H a tl n ps rows → ps.length = rows.length
  | _, _, .nil => rfl
  | _, _, .cons _ _ _ _ _ _ _ r => congrArg Nat.succ (RowsAt.len r)
/-- a change that leaves the rows' lists and the tuples -/
theorem RowsAt.keep {H0 H H' : Hp} {a tl : Addr} {n m : Nat} (k : KeepT H H') (hm : n ≤ m) : ∀ {ps : List Addr} {rows : List (List DM.D)}, (∀ p ∈ ps, ∀ vs, H p = some (.lst vs) → H' p = some (.lst vs)) → RowsAt H0 H a tl n ps rows → RowsAt H0 H' a tl m ps rows
  | _, _, _, .nil => .nil
  | _, _, h, .cons h0 h1 h2 h3 h4 h5 h6 r => .cons h0 h1 h2 h3 (h _ (List.mem_cons_self ..) _ h4) (h5.keep k) (Nat.le_trans h6 hm) (RowsAt.keep k hm (fun p hp => h p (List.mem_cons_of_mem _ hp)) r)
structure RAt (C : Addr) (H0 H : Hp) (r : Addr) (n : Nat) (st : DM.RS) : Prop where
  ex : ∃ (dx a tl : Addr) (ps : List Addr) (tv : List V), H r = some (.ins C dx (rF a tl st.ready)) ∧ H a = some (.lst (ps.reverse.map V.ref)) ∧ H tl = some (.lst tv) ∧ DTs H tv st.told ∧ RowsAt H0 H a tl n ps st.tuples ∧
    a ≠ tl ∧ H0 r = none ∧ H0 a = none ∧ H0 tl = none
  same : Same H0 H
  few : st.told.length ≤ n
  deep : st.tuples.length ≤ 1000
/-- a new state of the reader from H to H' -/
def spR (C CF : Addr) (arg : Hp → List V → (DM.RS → Option DM.RS) → Prop) : Sp := fun vs H Q E => ∃ (H0 : Hp) (r : Addr) (n : Nat) (st : DM.RS) (ws : List V) (f : DM.RS → Option DM.RS), vs = .ref r :: ws ∧ n ≤ 2000000 ∧ RAt C H0 H r n st ∧ arg H ws f ∧
  (∀ st', f st = some st' → ∀ H', RAt C H0 H' r (n + 1) st' → Q .non H') ∧ (f st = none → ∀ H', Same H0 H' → E (.ref CF) none H')
def argItem : Hp → List V → (DM.RS → Option DM.RS) → Prop := fun H ws f => ∃ v d, ws = [v] ∧ DT H v d ∧ f = fun st => st.item d
def spInit (C : Addr) : Sp := fun vs H Q _ => ∃ (H0 : Hp) (r dx : Addr), vs = [.ref r] ∧ H r = some (.ins C dx []) ∧ Same H0 H ∧ H0 r = none ∧ ∀ H', RAt C H0 H' r 0 ⟨[], true, []⟩ → Q .non H'
section
variable {P : Program} {w : World} {K : PySem.W.Frag} {mg : Str → Option Value} {base : Heap}
abbrev CR (K : PySem.W.Frag) : Addr := He.ga K "DataReader"
abbrev CM (K : PySem.W.Frag) : Addr := He.ga K "Malformed"
theorem ok_DataReader___init__ (T : Txt K mg) : Fnm P w K mg base (CR K) "__init__" 1 P_DataReader___init__ (spInit (CR K)) := by
  refine mkFnm T.d_DataReader___init__ T.mt_DataReader___init__ sc_DataReader___init__ (fun _ _ _ _ _ _ us hl => match us, hl with | [_], _ => rfl) (fun vs H Q E h => ?_) (fun cdv A outer s H vs Q E hr h => ⟨_, ((pss_cons (ps_fldK (K := K) (pv 0) (pe_lst pa_nil) rfl)
      (pss_cons (ps_fldK (K := K) (pv 0) pe_bl rfl)
      (pss_one (ps_fldK (K := K) (pv 0) (pe_lst pa_nil) rfl))))), ?_⟩)
  · obtain ⟨H0, r, dx, rfl, _⟩ := h
    rfl
  · obtain ⟨H0, r, dx, rfl, hr0, s0, hn, k⟩ := h
    rw [show start N_DataReader___init__ [V.ref r] = [some (V.ref r)] from rfl]
    walk_at "go"
    refine ⟨sz (by simp), fun a ha => ?_⟩
    walk_at "go"
    have hra : r ≠ a := fun e => by rw [e, ha] at hr0; cases hr0
    refine sfld_at (by rw [upd_ne hra]; exact hr0) T.cl_DataReader T.na_DataReader_tuples (by decide) ?_
    rw [show putF "tuples" (V.ref a) [] = [(("tuples" : Str), V.ref a)] from rfl]
    walk_at "go"
    refine sfld_at upd_same T.cl_DataReader T.na_DataReader_ready (by show 1 < 1000; decide) ?_
    rw [show putF "ready" (V.bl true) [(("tuples" : Str), V.ref a)] = [(("tuples" : Str), V.ref a), (("ready" : Str), V.bl true)] from put_past (by decide +kernel)]
    walk_at "go"
    refine ⟨sz (by simp), fun tl ht => ?_⟩
    walk_at "go"
    have hrt : r ≠ tl := fun e => by rw [e, upd_same] at ht; cases ht
    refine sfld_at (by rw [upd_ne hrt]; exact upd_same) T.cl_DataReader T.na_DataReader_told (by show 2 < 1000; decide) ?_
    walk_at "go"
    have hta : tl ≠ a := fun e => by
      rw [e, upd_ne (Ne.symm hra), upd_ne (Ne.symm hra), upd_same] at ht
      cases ht
    have htn : H tl = none := by
      rw [upd_ne (Ne.symm hrt), upd_ne (Ne.symm hrt), upd_ne hta] at ht
      exact ht
    refine k _ ⟨⟨dx, a, tl, [], [], ?_, ?_, ?_, .nil, .nil, Ne.symm hta, hn, s0.free ha, s0.free htn⟩, ?_, Nat.le_refl _, Nat.zero_le _⟩
    · rw [upd_same]
      have e : putF "told" (.ref tl) [(("tuples" : Str), V.ref a), (("ready" : Str), V.bl true)] = rF a tl true := by
        rw [put_past (by decide +kernel), put_past (by decide +kernel)]
        rfl
      rw [e]
    · rw [upd_ne (Ne.symm hra), upd_ne (Ne.symm hta), upd_ne (Ne.symm hra), upd_ne (Ne.symm hra), upd_same]
      rfl
    · rw [upd_ne (Ne.symm hrt), upd_same]
    · exact Same.put (Same.put (Same.put (Same.put (Same.put s0 (s0.free ha)) hn) hn) (s0.free htn)) hn
end
theorem lst_ne_ins {H : Hp} {p r : Addr} {vs : List V} {C dx : Addr} {fs : List (Str × V)} (h : H p = some (.lst vs)) (h2 : H r = some (.ins C dx fs)) : p ≠ r := fun e => by rw [e, h2] at h; cases h
theorem setNext {vs : List Nat} : True := True.intro
section
variable {P : Program} {w : World} {K : PySem.W.Frag} {mg : Str → Option Value} {base : Heap}
theorem rev_map {p : Addr} {ps : List Addr} : (p :: ps).reverse.map V.ref = ps.reverse.map V.ref ++ [V.ref p] := by
  rw [List.reverse_cons, List.map_append]
  rfl
theorem ok_DataReader_item (T : Txt K mg) : MtZ famN P w K mg base (CR K) "item" 1 P_DataReader_item (spR (CR K) (CM K) argItem) := by
  refine mkMtZ T.d_DataReader_item T.mt_DataReader_item sc_DataReader_item (fun _ _ _ _ _ _ us hl => match us, hl with | [_, _], _ => rfl) (fun vs H Q E h => ?_) (fun cdv A outer s H vs Q E hr h => ⟨_, ((pss_cons (ps_if (pt_not (pt_val (pe_fldK (K := K) (pv 0) rfl))) (pss_one (ps_raiseZ rfl (takes_ofZ rfl rfl rfl rfl) (pmk_ownN PySem.F.excBase_ValueError T.x_Malformed T.g_Malformed T.k_Malformed (raises_own T.b_Malformed T.t_Malformed) rfl))) pss_nil)
      (pss_cons (ps_if (pt_cmpR op_uGt (pe_callB (kC (K := K) uLen cr_uLen rfl) rfl T.f_len boot_len (pa_cons (pe_fldK (K := K) (pv 0) rfl) pa_nil)) pe_int (nomark _)) (pss_one (ps_expr (pe_bmK (K := K) PySem.F.plainAttrs_list PySem.F.slot_list_append PySem.F.type_list_append mt_append (pe_ix (kIx (K := K) rIx ix_u rfl) (pe_fldK (K := K) (pv 0) rfl) (pe_un un_uNeg pe_int) (fun _ _ => rfl)) (pa_cons (pv 1) pa_nil) rfl))) (pss_one (ps_expr (pe_bmK (K := K) PySem.F.plainAttrs_list PySem.F.slot_list_append PySem.F.type_list_append mt_append (pe_fldK (K := K) (pv 0) rfl) (pa_cons (pv 1) pa_nil) rfl))))
      (pss_one (ps_fldK (K := K) (pv 0) pe_bl rfl))))), ?_⟩)
  · obtain ⟨H0, r, n, st, ws, f, rfl, _, _, ⟨v, d, rfl, _⟩, _⟩ := h
    rfl
  · obtain ⟨H0, r, n, st, ws, f, rfl, hn, ⟨⟨dx, a, tl, ps, tv, hR, hA, hT, hD, hP, hat, n1, n2, n3⟩, hs, hf, hdp⟩, ⟨v, d, rfl, hv, rfl⟩, kS, kN⟩ := h
    rw [show start N_DataReader_item [V.ref r, v] = [some (V.ref r), some v] from rfl]
    have har : a ≠ r := lst_ne_ins hA hR
    have htr : tl ≠ r := lst_ne_ins hT hR
    walk_at "go"
    refine fld_at hR T.cl_DataReader T.na_DataReader_ready rF_ready ?_
    walk_at "go"
    cases hrd : st.ready with
    | false =>
      refine ift rfl ?_
      exact kN (by show DM.RS.item st d = none; unfold DM.RS.item; rw [hrd]; rfl) _ hs
    | true =>
      refine iff_ rfl ?_
      walk_at "go"
      refine fld_at hR T.cl_DataReader T.na_DataReader_tuples rF_tuples ?_
      walk_at "go"
      refine uLen_l (sl hA) ?_
      walk_at "go"
      have hlen : ps.length = st.tuples.length := hP.len
      generalize htup : st.tuples = tu at hP hlen
      cases hP with
      | nil =>
        refine iff_ (by simp) ?_
        walk_at "go"
        refine fld_at hR T.cl_DataReader T.na_DataReader_told rF_told ?_
        walk_at "go"
        refine ⟨ty_l (sl hT), ?_⟩
        walk_at "go"
        refine ap_l hT (by rw [hD.len]; exact small (by omega)) ?_
        walk_at "go"
        have hR1 : (upd H tl (.lst (tv ++ [v]))) r = some (.ins (CR K) dx (rF a tl st.ready)) := by rw [upd_ne (Ne.symm htr)]; exact hR
        refine sfld_at hR1 T.cl_DataReader T.na_DataReader_ready (by show 3 < 1000; decide) ?_
        rw [rF_put]
        have kt : KeepT H (upd (upd H tl (.lst (tv ++ [v]))) r (.ins (CR K) dx (rF a tl false))) := (KeepT.lst hT).trans (KeepT.ins hR1)
        refine kS ⟨[], false, st.told ++ [d]⟩ (by show DM.RS.item st d = _; unfold DM.RS.item; rw [hrd, htup]; rfl) _ ⟨⟨dx, a, tl, [], tv ++ [v], upd_same, ?_, ?_, (hD.snoc hv).keep kt, .nil, hat, n1, n2, n3⟩, ?_, ?_, Nat.zero_le _⟩
        · rw [upd_ne har, upd_ne hat]
          exact hA
        · rw [upd_ne htr, upd_same]
        · exact Same.put (Same.put hs n3) n1
        · simp only [List.length_append, List.length_singleton]
          omega
      | cons p0 p1 p2 p3 p4 p5 p6 pr =>
        rename_i p ps' vs row rows
        refine ift (by simp) ?_
        walk_at "go"
        refine fld_at hR T.cl_DataReader T.na_DataReader_tuples rF_tuples ?_
        walk_at "go"
        refine uIx_l (v := .ref p) (sl hA) (by rw [rev_map]; exact atI_last _ _) ?_
        walk_at "go"
        refine ⟨ty_l (sl p4), ?_⟩
        walk_at "go"
        refine ap_l p4 (by rw [p5.len]; exact small (by omega)) ?_
        walk_at "go"
        have hpr : p ≠ r := lst_ne_ins p4 hR
        have hR1 : (upd H p (.lst (vs ++ [v]))) r = some (.ins (CR K) dx (rF a tl st.ready)) := by rw [upd_ne (Ne.symm hpr)]; exact hR
        refine sfld_at hR1 T.cl_DataReader T.na_DataReader_ready (by show 3 < 1000; decide) ?_
        rw [rF_put]
        have kt : KeepT H (upd (upd H p (.lst (vs ++ [v]))) r (.ins (CR K) dx (rF a tl false))) := (KeepT.lst p4).trans (KeepT.ins hR1)
        refine kS ⟨(row ++ [d]) :: rows, false, st.told⟩ (by show DM.RS.item st d = _; unfold DM.RS.item; rw [hrd, htup]; rfl) _ ⟨⟨dx, a, tl, p :: ps', tv, upd_same, ?_, ?_, hD.keep kt, ?_, hat, n1, n2, n3⟩, ?_, Nat.le_succ_of_le hf, ?_⟩
        · rw [upd_ne har, upd_ne (Ne.symm p1)]
          exact hA
        · rw [upd_ne htr, upd_ne (Ne.symm p2)]
          exact hT
        · refine .cons p0 p1 p2 p3 (by rw [upd_ne hpr, upd_same]) ((p5.snoc hv).keep kt) (by simp; omega) (pr.keep kt (Nat.le_succ n) fun q hq ws hw => ?_)
          rw [upd_ne (lst_ne_ins hw hR), upd_ne (fun e : q = p => p3 (e ▸ hq))]
          exact hw
        · exact Same.put (Same.put hs p0) n1
        · rw [htup] at hdp
          simpa using hdp
def argNone (f : DM.RS → Option DM.RS) : Hp → List V → (DM.RS → Option DM.RS) → Prop := fun _ ws g => ws = [] ∧ g = f
def fOpen (st : DM.RS) : Option DM.RS := if st.ready = true ∧ st.tuples.length < 1000 then some ⟨[] :: st.tuples, st.ready, st.told⟩ else none
def fComma (st : DM.RS) : Option DM.RS := if st.ready = true ∨ st.tuples = [] then none else some ⟨st.tuples, true, st.told⟩
def fClose (st : DM.RS) : Option DM.RS := match st.tuples with
    | [] => none
    | row :: rest => if st.ready = true ∧ row ≠ [] then none else DM.RS.item ⟨rest, true, st.told⟩ (.t row)
theorem ok_DataReader_comma (T : Txt K mg) : MtZ famN P w K mg base (CR K) "comma" 1 P_DataReader_comma (spR (CR K) (CM K) (argNone fComma)) := by
  refine mkMtZ T.d_DataReader_comma T.mt_DataReader_comma sc_DataReader_comma (fun _ _ _ _ _ _ us hl => match us, hl with | [_], _ => rfl) (fun vs H Q E h => ?_) (fun cdv A outer s H vs Q E hr h => ⟨_, ((pss_cons (ps_if (PW.pt (pw_or (pt_val (pe_fldK (K := K) (pv 0) rfl)) (pw_or1 (pt_cmpR (kOp (K := K) uEq (op_uEq hr) rfl) (pe_callB (kC (K := K) uLen cr_uLen rfl) rfl T.f_len boot_len (pa_cons (pe_fldK (K := K) (pv 0) rfl) pa_nil)) pe_int (nomark _))))) (pss_one (ps_raiseZ rfl (takes_ofZ rfl rfl rfl rfl) (pmk_ownN PySem.F.excBase_ValueError T.x_Malformed T.g_Malformed T.k_Malformed (raises_own T.b_Malformed T.t_Malformed) rfl))) pss_nil)
      (pss_one (ps_fldK (K := K) (pv 0) pe_bl rfl)))), ?_⟩)
  · obtain ⟨H0, r, n, st, ws, f, rfl, _, _, ⟨rfl, _⟩, _⟩ := h
    rfl
  · obtain ⟨H0, r, n, st, ws, f, rfl, hn, ⟨⟨dx, a, tl, ps, tv, hR, hA, hT, hD, hP, hat, n1, n2, n3⟩, hs, hf, hdp⟩, ⟨rfl, rfl⟩, kS, kN⟩ := h
    rw [show start N_DataReader_comma [V.ref r] = [some (V.ref r)] from rfl]
    have har : a ≠ r := lst_ne_ins hA hR
    have htr : tl ≠ r := lst_ne_ins hT hR
    have hlen := hP.len
    walk_at "go"
    refine fld_at hR T.cl_DataReader T.na_DataReader_ready rF_ready ?_
    walk_at "go"
    cases hrd : st.ready with
    | true => exact ift rfl (ift rfl (kN (if_pos (.inl hrd)) _ hs))
    | false =>
      refine iff_ rfl ?_
      walk_at "go"
      refine fld_at hR T.cl_DataReader T.na_DataReader_tuples rF_tuples ?_
      walk_at "go"
      refine uLen_l (sl hA) ?_
      walk_at "go"
      refine ifd (fun h => ?_) (fun h => ?_)
      · have h0 : st.tuples = [] := by
          simp only [List.length_map, List.length_reverse] at h
          exact List.length_eq_zero_iff.mp (by omega)
        exact kN (if_pos (.inr h0)) _ hs
      · have h0 : st.tuples ≠ [] := fun e => h (by simp only [List.length_map, List.length_reverse]; rw [hlen, e]; rfl)
        walk_at "go"
        refine sfld_at hR T.cl_DataReader T.na_DataReader_ready (by show 3 < 1000; decide) ?_
        rw [rF_put]
        have kt : KeepT H (upd H r (.ins (CR K) dx (rF a tl true))) := KeepT.ins hR
        refine kS ⟨st.tuples, true, st.told⟩ (if_neg (by rintro (q | q); rw [hrd] at q; cases q; exact h0 q)) _ ⟨⟨dx, a, tl, ps, tv, upd_same, ?_, ?_, hD.keep kt, ?_, hat, n1, n2, n3⟩, Same.put hs n1, Nat.le_succ_of_le hf, hdp⟩
        · rw [upd_ne har]; exact hA
        · rw [upd_ne htr]; exact hT
        · exact hP.keep kt (Nat.le_succ n) fun q hq ws hw => by
            rw [upd_ne (lst_ne_ins hw hR)]
            exact hw
theorem ok_DataReader_open_one (T : Txt K mg) : MtZ famN P w K mg base (CR K) "open_one" 1 P_DataReader_open_one (spR (CR K) (CM K) (argNone fOpen)) := by
  refine mkMtZ T.d_DataReader_open_one T.mt_DataReader_open_one sc_DataReader_open_one (fun _ _ _ _ _ _ us hl => match us, hl with | [_], _ => rfl) (fun vs H Q E h => ?_) (fun cdv A outer s H vs Q E hr h => ⟨_, ((pss_cons (ps_if (PW.pt (pw_or (pt_not (pt_val (pe_fldK (K := K) (pv 0) rfl))) (pw_or1 (pt_cmpR op_uGe (pe_callB (kC (K := K) uLen cr_uLen rfl) rfl T.f_len boot_len (pa_cons (pe_fldK (K := K) (pv 0) rfl) pa_nil)) (pe_gI rfl T.c_MOST_DEPTH) (nomark _))))) (pss_one (ps_raiseZ rfl (takes_ofZ rfl rfl rfl rfl) (pmk_ownN PySem.F.excBase_ValueError T.x_Malformed T.g_Malformed T.k_Malformed (raises_own T.b_Malformed T.t_Malformed) rfl))) pss_nil)
      (pss_one (ps_expr (pe_bmK (K := K) PySem.F.plainAttrs_list PySem.F.slot_list_append PySem.F.type_list_append mt_append (pe_fldK (K := K) (pv 0) rfl) (pa_cons (pe_lst pa_nil) pa_nil) rfl))))), ?_⟩)
  · obtain ⟨H0, r, n, st, ws, f, rfl, _, _, ⟨rfl, _⟩, _⟩ := h
    rfl
  · obtain ⟨H0, r, n, st, ws, f, rfl, hn, ⟨⟨dx, a, tl, ps, tv, hR, hA, hT, hD, hP, hat, n1, n2, n3⟩, hs, hf, hdp⟩, ⟨rfl, rfl⟩, kS, kN⟩ := h
    rw [show start N_DataReader_open_one [V.ref r] = [some (V.ref r)] from rfl]
    have har : a ≠ r := lst_ne_ins hA hR
    have htr : tl ≠ r := lst_ne_ins hT hR
    have hlen := hP.len
    walk_at "go"
    refine fld_at hR T.cl_DataReader T.na_DataReader_ready rF_ready ?_
    walk_at "go"
    cases hrd : st.ready with
    | false => exact ift rfl (ift rfl (kN (if_neg (fun q => by rw [hrd] at q; cases q.1)) _ hs))
    | true =>
      refine iff_ rfl ?_
      walk_at "go"
      refine fld_at hR T.cl_DataReader T.na_DataReader_tuples rF_tuples ?_
      walk_at "go"
      refine uLen_l (sl hA) ?_
      walk_at "go"
      simp only [List.length_map, List.length_reverse]
      refine ifd (fun h => ?_) (fun h => ?_)
      · exact kN (if_neg (fun q => by have := q.2; omega)) _ hs
      · walk_at "go"
        refine fld_at hR T.cl_DataReader T.na_DataReader_tuples rF_tuples ?_
        walk_at "go"
        refine ⟨ty_l (sl hA), ?_⟩
        walk_at "go"
        refine ⟨sz (by simp), fun p hp => ?_⟩
        have hpa : a ≠ p := fun e => by rw [e, hp] at hA; cases hA
        have hpt : tl ≠ p := fun e => by rw [e, hp] at hT; cases hT
        have hpr : r ≠ p := fun e => by rw [e, hp] at hR; cases hR
        have hA1 : (upd H p (.lst [])) a = some (.lst (ps.reverse.map V.ref)) := by rw [upd_ne hpa]; exact hA
        refine ap_l hA1 (by rw [List.length_map, List.length_reverse]; exact small (by omega)) ?_
        walk_at "go"
        have kt : KeepT H (upd (upd H p (.lst [])) a (.lst (ps.reverse.map V.ref ++ [V.ref p]))) := (KeepT.new hp).trans (KeepT.lst hA1)
        refine kS ⟨[] :: st.tuples, st.ready, st.told⟩ (if_pos ⟨hrd, by omega⟩) _ ⟨⟨dx, a, tl, p :: ps, tv, ?_, ?_, ?_, hD.keep kt, ?_, hat, n1, n2, n3⟩, ?_, Nat.le_succ_of_le hf, by simp; omega⟩
        · rw [upd_ne (Ne.symm har), upd_ne hpr]; exact hR
        · rw [upd_same, rev_map]
        · rw [upd_ne (Ne.symm hat), upd_ne hpt]; exact hT
        · have hpn : ∀ q ∈ ps, q ≠ p ∧ q ≠ a := by
            clear kS kN hdp hA1 kt hA hlen h
            intro q hq
            generalize st.tuples = tu at hP
            induction hP with
            | nil => cases hq
            | cons p0 p1 p2 p3 p4 p5 p6 pr ih =>
              rcases List.mem_cons.mp hq with e | hq
              · subst e
                exact ⟨fun e => (by rw [e, hp] at p4; cases p4), p1⟩
              · exact ih hq
          refine .cons (hs.free hp) (Ne.symm hpa) (Ne.symm hpt) (fun hm => (hpn p hm).1 rfl) (by rw [upd_ne (Ne.symm hpa), upd_same]) .nil (Nat.zero_le _) (hP.keep kt (Nat.le_succ n) fun q hq ws hw => ?_)
          rw [upd_ne (hpn q hq).2, upd_ne (hpn q hq).1]
          exact hw
        · exact Same.put (Same.put hs (hs.free hp)) n2
end
theorem RAt.after {C : Addr} {H0 H H1 : Hp} {r : Addr} {n : Nat} {st : DM.RS} (h : RAt C H0 H r n st) (s : Same H H1) : RAt C H0 H1 r n st := by
  obtain ⟨⟨dx, a, tl, ps, tv, hR, hA, hT, hD, hP, hat, n1, n2, n3⟩, hs, hf, hdp⟩ := h
  exact ⟨⟨dx, a, tl, ps, tv, s _ _ hR, s _ _ hA, s _ _ hT, hD.keep (KeepT.of s), hP.keep (KeepT.of s) (Nat.le_refl _) fun q _ ws hw => s _ _ hw, hat, n1, n2, n3⟩, hs.trans s, hf, hdp⟩
theorem RAt.more {C : Addr} {H0 H : Hp} {r : Addr} {n m : Nat} {st : DM.RS} (h : RAt C H0 H r n st) (hm : n ≤ m) : RAt C H0 H r m st := by
  obtain ⟨⟨dx, a, tl, ps, tv, hR, hA, hT, hD, hP, hat, n1, n2, n3⟩, hs, hf, hdp⟩ := h
  exact ⟨⟨dx, a, tl, ps, tv, hR, hA, hT, hD, hP.keep KeepT.refl hm fun q _ ws hw => hw, hat, n1, n2, n3⟩, hs, Nat.le_trans hf hm, hdp⟩
def argTake : Hp → List V → (DM.RS → Option DM.RS) → Prop := fun _ ws f => ∃ q : List Nat, ws = [.str (S q)] ∧ q.length ≤ 1000000 ∧ f = fun st => st.take q
section
variable {P : Program} {w : World} {K : PySem.W.Frag} {mg : Str → Option Value} {base : Heap}
theorem ok_DataReader_close_one (T : Txt K mg) (F_DataReader_item : MtZ famN P w K mg base (CR K) "item" 1 P_DataReader_item (spR (CR K) (CM K) argItem)) : MtZ famN P w K mg base (CR K) "close_one" 2 P_DataReader_close_one (spR (CR K) (CM K) (argNone fClose)) := by
  refine mkMtZ T.d_DataReader_close_one T.mt_DataReader_close_one sc_DataReader_close_one (fun _ _ _ _ _ _ us hl => match us, hl with | [_], _ => rfl) (fun vs H Q E h => ?_) (fun cdv A outer s H vs Q E hr h => ⟨_, ((pss_cons (ps_if (PW.pt (pw_or (pt_cmpR (kOp (K := K) uEq (op_uEq hr) rfl) (pe_callB (kC (K := K) uLen cr_uLen rfl) rfl T.f_len boot_len (pa_cons (pe_fldK (K := K) (pv 0) rfl) pa_nil)) pe_int (nomark _)) (pw_or1 (PW.pt (pw_and (pt_val (pe_fldK (K := K) (pv 0) rfl)) (pw_and1 (pt_cmpR op_uGt (pe_callB (kC (K := K) uLen cr_uLen rfl) rfl T.f_len boot_len (pa_cons (pe_ix (kIx (K := K) rIx ix_u rfl) (pe_fldK (K := K) (pv 0) rfl) (pe_un un_uNeg pe_int) (fun _ _ => rfl)) pa_nil)) pe_int (nomark _)))))))) (pss_one (ps_raiseZ rfl (takes_ofZ rfl rfl rfl rfl) (pmk_ownN PySem.F.excBase_ValueError T.x_Malformed T.g_Malformed T.k_Malformed (raises_own T.b_Malformed T.t_Malformed) rfl))) pss_nil)
      (pss_cons (ps_set (i := 1) sc_DataReader_close_one.nd rfl (by first | exact Or.inl rfl | exact Or.inr rfl) (pe_callTy (kC (K := K) uTup cr_uTup rfl) rfl T.f_tuple boot_tuple (pa_cons (pe_bm0K (K := K) PySem.F.plainAttrs_list PySem.F.slot_list_pop PySem.F.type_list_pop mt_pop (pe_fldK (K := K) (pv 0) rfl) rfl) pa_nil)))
      (pss_cons (ps_fldK (K := K) (pv 0) pe_bl rfl)
      (pss_one (ps_expr (pe_mtZ (pv 0) T.cl_DataReader F_DataReader_item (hr.mono (by omega)) (pa_tkZ (takes_ofZ rfl rfl rfl rfl)) (pa_cons (pv 1) pa_nil)))))))), ?_⟩)
  · obtain ⟨H0, r, n, st, ws, f, rfl, _, _, ⟨rfl, _⟩, _⟩ := h
    rfl
  · obtain ⟨H0, r, n, st, ws, f, rfl, hn, ⟨⟨dx, a, tl, ps, tv, hR, hA, hT, hD, hP, hat, n1, n2, n3⟩, hs, hf, hdp⟩, ⟨rfl, rfl⟩, kS, kN⟩ := h
    rw [show start N_DataReader_close_one [V.ref r] = [some (V.ref r), none] from rfl]
    have har : a ≠ r := lst_ne_ins hA hR
    have htr : tl ≠ r := lst_ne_ins hT hR
    walk_at "go"
    refine fld_at hR T.cl_DataReader T.na_DataReader_tuples rF_tuples ?_
    walk_at "go"
    refine uLen_l (sl hA) ?_
    walk_at "go"
    have hlen : ps.length = st.tuples.length := hP.len
    generalize htup : st.tuples = tu at hP hlen
    cases hP with
    | nil =>
      refine ift (by simp) ?_
      refine ift rfl ?_
      exact kN (by unfold fClose; rw [htup]) _ hs
    | cons p0 p1 p2 p3 p4 p5 p6 pr =>
      rename_i p ps' vs row rows
      refine iff_ (by simp; omega) ?_
      walk_at "go"
      refine fld_at hR T.cl_DataReader T.na_DataReader_ready rF_ready ?_
      walk_at "go"
      have hpr : p ≠ r := lst_ne_ins p4 hR
      have cont : ¬ (st.ready = true ∧ row ≠ []) → tBM0 K "list" rPop (tFld K (tVar 0) "tuples") [some (V.ref r), none] H fun x H1 => tNil [some (V.ref r), none] H1 fun xs H2 => uTup K (x :: xs) H2 fun x H3 => sFld K (tVar 0) (tC (.bl true)) "ready" ⟨fun σ' H' => tDrop (tMt (CR K) "item" (spR (CR K) (CM K) argItem) (WE fun cls d _ H => E cls d H) (tVar 0) (tCons (tVar 1) tNil)) { nx := fun _ H' => Q .non H', rt := Q } σ' H', Q, fun _ _ => False, fun _ _ => False⟩ [some (V.ref r), some x] H3 := fun hc => by
        walk_at "go"
        refine fld_at hR T.cl_DataReader T.na_DataReader_tuples rF_tuples ?_
        refine ⟨ty_l (sl hA), ?_⟩
        refine pop_l (y := .ref p) (xs := ps'.reverse.map V.ref) (by rw [hA, rev_map]) ?_
        walk_at "go"
        refine uTup_l (ys := vs) (sl (by rw [upd_ne p1]; exact p4)) fun l hl => ?_
        walk_at "go"
        have hl1 : H l = none := by
          by_cases e : l = a
          · rw [e, upd_same] at hl; cases hl
          · rw [upd_ne e] at hl; exact hl
        have hlr : r ≠ l := fun e => by rw [e, hl1] at hR; cases hR
        have hla : l ≠ a := fun e => by rw [e, upd_same] at hl; cases hl
        have hlt : tl ≠ l := fun e => by rw [e, hl1] at hT; cases hT
        have hR2 : (upd (upd H a (.lst (ps'.reverse.map V.ref))) l (.tup vs)) r = some (.ins (CR K) dx (rF a tl st.ready)) := by rw [upd_ne hlr, upd_ne (Ne.symm har)]; exact hR
        refine sfld_at hR2 T.cl_DataReader T.na_DataReader_ready (by show 3 < 1000; decide) ?_
        rw [rF_put]
        walk_at "go"
        have kt : KeepT H (upd (upd (upd H a (.lst (ps'.reverse.map V.ref))) l (.tup vs)) r (.ins (CR K) dx (rF a tl true))) := ((KeepT.lst hA).trans (KeepT.new hl)).trans (KeepT.ins hR2)
        refine ⟨r, dx, _, rfl, upd_same, rF_no (by decide +kernel) (by decide +kernel) (by decide +kernel), ?_⟩
        walk_at "go"
        have hfc : fClose st = DM.RS.item ⟨rows, true, st.told⟩ (.t row) := by
          unfold fClose
          rw [htup]
          exact if_neg hc
        refine ⟨H0, r, n, ⟨rows, true, st.told⟩, [.ref l], _, rfl, hn, ⟨⟨dx, a, tl, ps', tv, upd_same, ?_, ?_, hD.keep kt, ?_, hat, n1, n2, n3⟩, ?_, hf, ?_⟩, ⟨.ref l, .t row, rfl, .t (vs := vs) ?_ (p5.keep kt), rfl⟩, fun st' e H' ra => ?_, fun e H' sm => ?_⟩
        · rw [upd_ne har, upd_ne (Ne.symm hla), upd_same]
        · rw [upd_ne htr, upd_ne hlt, upd_ne (Ne.symm hat)]
          exact hT
        · refine pr.keep kt (Nat.le_refl _) fun q hq ws hw => ?_
          have hqa : q ≠ a := by
            clear hlen
            clear hfc kS kN
            have : ∀ {ps : List Addr} {rows : List (List DM.D)}, RowsAt H0 H a tl n ps rows → ∀ q ∈ ps, q ≠ a := by
              intro ps rows h
              induction h with
              | nil => intro q hq; cases hq
              | cons _ p1 _ _ _ _ _ _ ih =>
                intro q hq
                rcases List.mem_cons.mp hq with e | hq
                · rw [e]; exact p1
                · exact ih q hq
            exact this pr q hq
          rw [upd_ne (lst_ne_ins hw hR), upd_ne (fun e : q = l => by rw [e, hl1] at hw; cases hw), upd_ne hqa]
          exact hw
        · exact Same.put (Same.put (Same.put hs n2) (hs.free hl1)) n1
        · rw [htup] at hdp
          exact Nat.le_of_succ_le hdp
        · rw [upd_ne (Ne.symm hlr), upd_same]
        · exact kS st' (hfc.trans e) H' ra
        · exact kN (hfc.trans e) H' sm
      cases hrd : st.ready with
      | false =>
        refine iff_ rfl ?_
        refine iff_ rfl ?_
        walk_at "g1"
        walk_at "g1"
        refine cont (fun q => by rw [hrd] at q; cases q.1)
      | true =>
        refine ift rfl ?_
        walk_at "go"
        refine fld_at hR T.cl_DataReader T.na_DataReader_tuples rF_tuples ?_
        walk_at "go"
        refine uIx_l (v := .ref p) (sl hA) (by rw [rev_map]; exact atI_last _ _) ?_
        walk_at "go"
        refine uLen_l (sl p4) ?_
        walk_at "go"
        rw [p5.len]
        refine ifd (fun h => ?_) (fun h => ?_)
        · exact kN (by unfold fClose; rw [htup]; exact if_pos ⟨hrd, fun e => by rw [e] at h; exact absurd h (by decide)⟩) _ hs
        · walk_at "g1"
          walk_at "g1"
          refine cont (fun q => h ?_)
          have := List.length_pos_iff.mpr q.2
          omega
theorem ok_DataReader_take (T : Txt K mg) (F_is_word : Fnn P w K mg base "is_word" 1 P_is_word (spB K wordP)) (F_read_whole : FnZ famN P w K mg base "read_whole" 1 P_read_whole (spRW K (CM K)))
    (F_DataReader_item : MtZ famN P w K mg base (CR K) "item" 1 P_DataReader_item (spR (CR K) (CM K) argItem)) (F_DataReader_open_one : MtZ famN P w K mg base (CR K) "open_one" 1 P_DataReader_open_one (spR (CR K) (CM K) (argNone fOpen)))
    (F_DataReader_close_one : MtZ famN P w K mg base (CR K) "close_one" 2 P_DataReader_close_one (spR (CR K) (CM K) (argNone fClose))) (F_DataReader_comma : MtZ famN P w K mg base (CR K) "comma" 1 P_DataReader_comma (spR (CR K) (CM K) (argNone fComma))) :
    MtZ famN P w K mg base (CR K) "take" 3 P_DataReader_take (spR (CR K) (CM K) argTake) := by
  refine mkMtZ T.d_DataReader_take T.mt_DataReader_take sc_DataReader_take (fun _ _ _ _ _ _ us hl => match us, hl with | [_, _], _ => rfl) (fun vs H Q E h => ?_) (fun cdv A outer s H vs Q E hr h => ⟨_, ((pss_one (ps_if (pt_cmpR (kOp (K := K) uEq (op_uEq hr) rfl) (pv 1) (pe_S [91] (by decide +kernel)) (nomark _)) (pss_one (ps_expr (pe_mtZ0 (pv 0) T.cl_DataReader F_DataReader_open_one (hr.mono (by omega)) (pa_tkZ (takes_ofZ rfl rfl rfl rfl))))) (pss_one (ps_if (pt_cmpR (kOp (K := K) uEq (op_uEq hr) rfl) (pv 1) (pe_S [93] (by decide +kernel)) (nomark _)) (pss_one (ps_expr (pe_mtZ0 (pv 0) T.cl_DataReader F_DataReader_close_one (hr.mono (by omega)) (pa_tkZ (takes_ofZ rfl rfl rfl rfl))))) (pss_one (ps_if (pt_cmpR (kOp (K := K) uEq (op_uEq hr) rfl) (pv 1) (pe_S [44] (by decide +kernel)) (nomark _)) (pss_one (ps_expr (pe_mtZ0 (pv 0) T.cl_DataReader F_DataReader_comma (hr.mono (by omega)) (pa_tkZ (takes_ofZ rfl rfl rfl rfl))))) (pss_one (ps_expr (pe_mtZ (pv 0) T.cl_DataReader F_DataReader_item (hr.mono (by omega)) (pa_tkZ (takes_ofZ rfl rfl rfl rfl)) (pa_cons (pe_ifExp (pt_val (pe_fn F_is_word (hr.mono (by omega)) rfl pa_0 (pa_cons (pv 1) pa_nil))) (pv 1) (pe_fnZ F_read_whole (hr.mono (by omega)) rfl (pa_tkZ (takes_ofZ rfl rfl rfl rfl)) (pa_cons (pv 1) pa_nil))) pa_nil))))))))))), ?_⟩)
  · obtain ⟨H0, r, n, st, ws, f, rfl, _, _, ⟨q, rfl, _⟩, _⟩ := h
    rfl
  · obtain ⟨H0, r, n, st, ws, f, rfl, hn, hRA, ⟨q, rfl, hq, rfl⟩, kS, kN⟩ := h
    rw [show start N_DataReader_take [V.ref r, V.str (S q)] = [some (V.ref r), some (V.str (S q))] from rfl]
    obtain ⟨dx, a, tl, ps, tv, hR, _⟩ := hRA.ex
    walk_at "go"
    have hno : ∀ {m : Str}, (m == ("tuples" : Str)) = false → (m == ("ready" : Str)) = false → (m == ("told" : Str)) = false → List.lookup m (rF a tl st.ready) = none := fun h1 h2 h3 => rF_no h1 h2 h3
    refine ifd (fun h1 => ?_) (fun h1 => ?_)
    · walk_at "go"
      refine ⟨r, dx, _, rfl, hR, hno (by decide +kernel) (by decide +kernel) (by decide +kernel), ?_⟩
      walk_at "go"
      have e : st.take q = fOpen st := by
        unfold DM.RS.take
        rw [if_pos h1]
        rfl
      exact ⟨H0, r, n, st, [], _, rfl, hn, hRA, ⟨rfl, rfl⟩, fun st' e' => kS st' (e.trans e'), fun e' => kN (e.trans e')⟩
    walk_at "go"
    refine ifd (fun h2 => ?_) (fun h2 => ?_)
    · walk_at "go"
      refine ⟨r, dx, _, rfl, hR, hno (by decide +kernel) (by decide +kernel) (by decide +kernel), ?_⟩
      walk_at "go"
      have e : st.take q = fClose st := by
        unfold DM.RS.take
        rw [if_neg h1, if_pos h2]
        rfl
      exact ⟨H0, r, n, st, [], _, rfl, hn, hRA, ⟨rfl, rfl⟩, fun st' e' => kS st' (e.trans e'), fun e' => kN (e.trans e')⟩
    walk_at "go"
    refine ifd (fun h3 => ?_) (fun h3 => ?_)
    · walk_at "go"
      refine ⟨r, dx, _, rfl, hR, hno (by decide +kernel) (by decide +kernel) (by decide +kernel), ?_⟩
      walk_at "go"
      have e : st.take q = fComma st := by
        unfold DM.RS.take
        rw [if_neg h1, if_neg h2, if_pos h3]
        rfl
      exact ⟨H0, r, n, st, [], _, rfl, hn, hRA, ⟨rfl, rfl⟩, fun st' e' => kS st' (e.trans e'), fun e' => kN (e.trans e')⟩
    walk_at "go"
    refine ⟨r, dx, _, rfl, hR, hno (by decide +kernel) (by decide +kernel) (by decide +kernel), ?_⟩
    walk_at "go"
    have hqs : q.length ≤ sizeLine := Nat.le_of_lt (small (by omega))
    refine ⟨.str (S q), .str (S q), rfl, .str _, by show (S q).length ≤ sizeLine; rw [S_len]; exact hqs, fun H1 s1 => ?_⟩
    walk_at "go"
    have e0 : st.take q = if DM.wordOk q = true then st.item (.s q) else if DM.bodyLen q ≤ 4000 then (DM.rdNum q).bind fun z => st.item (.i z) else none := by
      unfold DM.RS.take
      rw [if_neg h1, if_neg h2, if_neg h3]
    show if DM.wordOk q = true then _ else _
    refine ifb (fun hw => ?_) (fun hw => ?_)
    · walk_at "go"
      rw [if_pos hw] at e0
      exact ⟨H0, r, n, st, _, _, rfl, hn, hRA.after s1, ⟨_, _, rfl, .s q, rfl⟩, fun st' e' => kS st' (e0.trans e'), fun e' => kN (e0.trans e')⟩
    · walk_at "go"
      rw [hw] at e0
      simp only [Bool.false_eq_true, if_false] at e0
      refine ⟨q, rfl, hqs, fun z hb hz H2 s2 => ?_, fun hbad H2 s2 => ?_⟩
      · walk_at "go"
        rw [if_pos hb, hz] at e0
        exact ⟨H0, r, n, st, _, _, rfl, hn, hRA.after (s1.trans s2), ⟨_, _, rfl, .i z, rfl⟩, fun st' e' => kS st' (e0.trans e'), fun e' => kN (e0.trans e')⟩
      · refine kN (e0.trans ?_) _ (hRA.same.trans (s1.trans s2))
        rcases hbad with h | h
        · rw [if_neg (by omega)]
        · rw [h]
          split <;> rfl
/-- read_data: any value; a text is read, all else refused -/
def spRD (CF : Addr) : Sp := fun vs H Q E => ∃ (v : V), vs = [v] ∧ ((∃ t : List Nat, v = .str (S t) ∧ t.length ≤ 1000000 ∧
  (∀ d, DM.rd t = some d → ∀ H' u, Same H H' → DT H' u d → Q u H') ∧ (DM.rd t = none → ∀ H', Same H H' → E (.ref CF) none H')) ∨
  ((∃ ty, TyX K H v (.type ty) ∧ kitB ty "str" = some false) ∧ ∀ H', Same H H' → E (.ref CF) none H'))
end
theorem pcs_len : ∀ (t cur : List Nat), (DM.pcs cur t).length ≤ cur.length + t.length
  | [], cur => by
    unfold DM.pcs
    split
    · exact Nat.zero_le _
    · rename_i h
      have := List.length_pos_iff.mpr h
      simp
      omega
  | c :: r, cur => by
    unfold DM.pcs
    split
    · have ih := pcs_len r []
      split
      · simp at ih ⊢
        omega
      · rename_i h
        have := List.length_pos_iff.mpr h
        simp at ih ⊢
        omega
    · have ih := pcs_len r (cur ++ [c])
      simp at ih ⊢
      omega
theorem piece_len {q : List Nat} : ∀ {ps : List (List Nat)}, q ∈ ps → q.length ≤ ps.flatten.length
  | p :: ps, h => by
    rw [List.flatten_cons, List.length_append]
    rcases List.mem_cons.mp h with e | h
    · rw [e]; exact Nat.le_add_right ..
    · exact Nat.le_trans (piece_len h) (Nat.le_add_left ..)
theorem run_append (st : DM.RS) : ∀ (a b : List (List Nat)), st.run (a ++ b) = (st.run a).bind fun s => s.run b
  | [], b => by simp [DM.RS.run]
  | p :: a, b => by
    rw [List.cons_append, DM.RS.run, DM.RS.run]
    cases h : st.take p with
    | none => rfl
    | some s => exact run_append s a b
theorem run_one (st : DM.RS) (p : List Nat) : st.run [p] = st.take p := by
  rw [DM.RS.run]
  cases st.take p <;> rfl
section
variable {P : Program} {w : World} {K : PySem.W.Frag} {mg : Str → Option Value} {base : Heap}
theorem ok_read_data (T : Txt K mg) (F_DataReader___init__ : Fnm P w K mg base (CR K) "__init__" 1 P_DataReader___init__ (spInit (CR K))) (F_pieces_of : Fnn P w K mg base "pieces_of" 1 P_pieces_of (spPcs K))
    (F_DataReader_take : MtZ famN P w K mg base (CR K) "take" 3 P_DataReader_take (spR (CR K) (CM K) argTake)) : FnZ famN P w K mg base "read_data" 4 P_read_data (spRD (K := K) (CM K)) := by
  refine mkFnZ T.d_read_data T.g_read_data sc_read_data (fun _ _ _ _ _ _ us hl => match us, hl with | [_], _ => rfl) (fun vs H Q E h => ?_) (fun cdv A outer s H vs Q E hr h => ⟨_, ((pss_cons (ps_if (pt_not (pt_val (pe_callB (kC (K := K) rIsi call_isi rfl) rfl T.f_isinstance boot_isinstance (pa_cons (pv 0) (pa_cons (pe_bltn (v := .ty "str") rfl T.f_str boot_str rfl) pa_nil))))) (pss_one (ps_raiseZ rfl (takes_ofZ rfl rfl rfl rfl) (pmk_ownN PySem.F.excBase_ValueError T.x_Malformed T.g_Malformed T.k_Malformed (raises_own T.b_Malformed T.t_Malformed) rfl))) pss_nil)
      (pss_cons (ps_set (i := 1) sc_read_data.nd rfl (by first | exact Or.inl rfl | exact Or.inr rfl) (pe_mk0 T.mk_DataReader F_DataReader___init__ (hr.mono (by omega)) rfl T.g_DataReader))
      (pss_cons (ps_for (passes_of rfl) rfl (pi_listK (K := K) (pe_fn F_pieces_of (hr.mono (by omega)) rfl pa_0 (pa_cons (pv 0) pa_nil)) rfl) (pg_name (i := 2) sc_read_data.nd rfl (by first | exact Or.inl rfl | exact Or.inr rfl)) (pss_one (ps_expr (pe_mtZ (pv 1) T.cl_DataReader F_DataReader_take (hr.mono (by omega)) (pa_tkZ (takes_ofZ rfl rfl rfl rfl)) (pa_cons (pv 2) pa_nil)))))
      (pss_cons (ps_if (PW.pt (pw_or (pt_cmpR op_uGt (pe_callB (kC (K := K) uLen cr_uLen rfl) rfl T.f_len boot_len (pa_cons (pe_fldK (K := K) (pv 1) rfl) pa_nil)) pe_int (nomark _)) (pw_or1 (pt_cmpR (kOp (K := K) uNe (op_uNe hr) rfl) (pe_callB (kC (K := K) uLen cr_uLen rfl) rfl T.f_len boot_len (pa_cons (pe_fldK (K := K) (pv 1) rfl) pa_nil)) pe_int (nomark _))))) (pss_one (ps_raiseZ rfl (takes_ofZ rfl rfl rfl rfl) (pmk_ownN PySem.F.excBase_ValueError T.x_Malformed T.g_Malformed T.k_Malformed (raises_own T.b_Malformed T.t_Malformed) rfl))) pss_nil)
      (pss_one (ps_ret (pe_ix (kIx (K := K) rIx ix_u rfl) (pe_fldK (K := K) (pv 1) rfl) pe_int (fun _ _ => rfl))))))))), ?_⟩)
  · obtain ⟨v, rfl, _⟩ := h
    rfl
  · obtain ⟨v, rfl, h⟩ := h
    rw [show start N_read_data [v] = [some v, none, none] from rfl]
    rcases h with ⟨t, rfl, ht, kS, kN⟩ | ⟨⟨ty, h1, h2⟩, kN⟩
    · walk_at "go"
      refine uIsi_D (.str (S t)) (b := true) rfl ?_
      walk_at "go"
      refine iff_ rfl ?_
      walk_at "go"
      intro r dx hr0 hdx hne
      refine ⟨H, r, dx, rfl, upd_same, ?_, hr0, fun H1 hRA => ?_⟩
      · exact Same.put (Same.put (.refl H) hdx) hr0
      refine ⟨rfl, ?_⟩
      walk_at "go"
      refine ⟨t, rfl, ht, fun H2 p s2 hp hpl => ?_⟩
      refine ⟨p, rfl, ⟨_, sl hpl⟩, ?_⟩
      have hHp : H p = none := hRA.same.free hp
      have hRA2 : RAt (CR K) (upd H p (.lst (txts (DM.pcs [] t)))) H2 r 0 ⟨[], true, []⟩ := by
        obtain ⟨⟨dx', a, tl, ps, tv, hR, hA, hT, hD, hP, hat, n1, n2, n3⟩, hs, hf, hdp⟩ := hRA
        cases hP
        have f : ∀ {x : Addr} {o : HO}, H1 x = some o → H x = none → (upd H p (.lst (txts (DM.pcs [] t)))) x = none := fun {x o} h1 h2 => by
          rw [upd_ne (fun e => by rw [e, hp] at h1; cases h1)]
          exact h2
        refine ⟨⟨dx', a, tl, [], tv, s2 _ _ hR, s2 _ _ hA, s2 _ _ hT, hD.keep (KeepT.of s2), .nil, hat, f hR n1, f hA n2, f hT n3⟩, fun b o hb => ?_, hf, hdp⟩
        by_cases e : b = p
        · rw [e, upd_same] at hb
          rw [e, hpl]
          exact hb
        · rw [upd_ne e] at hb
          exact s2 _ _ (hs _ _ hb)
      have s0 : Same H (upd H p (.lst (txts (DM.pcs [] t)))) := Same.new hHp
      have hk : (upd H p (.lst (txts (DM.pcs [] t)))) p = some (.lst (txts (DM.pcs [] t))) := upd_same
      generalize upd H p (.lst (txts (DM.pcs [] t))) = H0 at hRA2 s0 hk
      have hcnt := pcs_len t []
      have hfl : (DM.pcs [] t).flatten = t := DM.pcs_flat t []
      refine fo_it (walk_list (xs := txts (DM.pcs [] t))) (fun i σ H' => ∃ (st : DM.RS) (o : Option V), σ = [some (V.str (S t)), some (.ref r), o] ∧ DM.RS.run ⟨[], true, []⟩ ((DM.pcs [] t).take i) = some st ∧ RAt (CR K) H0 H' r i st) ⟨⟨[], true, []⟩, none, rfl, rfl, hRA2⟩ (fun i σ H' _ ⟨st, o, _, _, ra⟩ => sl (ra.same _ _ hk)) ?_ ?_
      · rintro i x σ H3 H4 hi ⟨st, o, rfl, hrun, ra⟩ ⟨rfl, hx⟩
        have hx : (txts (DM.pcs [] t))[i]? = some x := hx
        rw [List.getElem?_map] at hx
        obtain ⟨q, hq, rfl⟩ : ∃ q, (DM.pcs [] t)[i]? = some q ∧ x = .str (S q) := by
          cases e : (DM.pcs [] t)[i]? with
          | none => rw [e] at hx; cases hx
          | some q => rw [e] at hx; exact ⟨q, rfl, (Option.some.inj hx).symm⟩
        have hi' : i < (DM.pcs [] t).length := by
          have := hi
          rw [List.length_map] at this
          exact this
        walk_at "go"
        obtain ⟨dx', a, tl, ps, tv, hR, _⟩ := ra.ex
        refine ⟨r, dx', _, rfl, hR, rF_no (by decide +kernel) (by decide +kernel) (by decide +kernel), ?_⟩
        walk_at "go"
        have hql : q.length ≤ t.length := by
          have := piece_len (List.mem_of_getElem? hq)
          rw [hfl] at this
          exact this
        refine ⟨H0, r, i, st, [.str (S q)], _, rfl, by simp at hcnt; omega, ra, ⟨q, rfl, by omega, rfl⟩, fun st' e H' ra' => ?_, fun e H' sm => ?_⟩
        · refine ⟨st', _, rfl, ?_, ra'⟩
          rw [take_succ' hq, run_append, hrun]
          exact (run_one st q).trans e
        · refine kN ?_ _ (s0.trans sm)
          have : DM.RS.run ⟨[], true, []⟩ (DM.pcs [] t) = none := by
            have e2 : DM.pcs [] t = (DM.pcs [] t).take i ++ ([q] ++ (DM.pcs [] t).drop (i + 1)) := by
              rw [← List.append_assoc, ← take_succ' hq, List.take_append_drop]
            rw [e2, run_append, hrun, Option.bind_some, run_append, run_one, e]
            rfl
          unfold DM.rd
          rw [this]
          rfl
      · rintro σ H3 ⟨st, o, rfl, hrun, ra⟩
        rw [List.length_map, List.take_length] at hrun
        obtain ⟨⟨dx', a, tl, ps, tv, hR, hA, hT, hD, hP, hat, n1, n2, n3⟩, hs, hf, hdp⟩ := ra
        have hlen := hP.len
        have hlen2 := hD.len
        have hrd : DM.rd t = match st.tuples, st.told with
          | [], [d] => some d
          | _, _ => none := by
          unfold DM.rd
          rw [hrun]
          rfl
        walk_at "go"
        refine fld_at hR T.cl_DataReader T.na_DataReader_tuples rF_tuples ?_
        walk_at "go"
        refine uLen_l (sl hA) ?_
        walk_at "go"
        simp only [List.length_map, List.length_reverse]
        rw [hlen]
        refine ifd (fun h => ?_) (fun h => ?_)
        · refine kN ?_ _ (s0.trans hs)
          rw [hrd]
          cases e : st.tuples with
          | nil => rw [e] at h; exact absurd h (by decide)
          | cons _ _ => rfl
        walk_at "go"
        refine fld_at hR T.cl_DataReader T.na_DataReader_told rF_told ?_
        walk_at "go"
        refine uLen_l (sl hT) ?_
        walk_at "go"
        rw [hlen2]
        have ht0 : st.tuples = [] := List.length_eq_zero_iff.mp (by omega)
        rw [ht0] at hrd
        refine ifnd (fun h => ?_) (fun h => ?_)
        · refine kN ?_ _ (s0.trans hs)
          rw [hrd]
          match e : st.told with
          | [] => rfl
          | [_] => rw [e] at h; exact absurd rfl h
          | _ :: _ :: _ => rfl
        walk_at "go"
        refine fld_at hR T.cl_DataReader T.na_DataReader_told rF_told ?_
        walk_at "go"
        generalize htold : st.told = td at hD hrd h
        cases hD with
        | nil => exact absurd h (by decide)
        | cons h1 h2 =>
          cases h2 with
          | nil =>
            refine uIx_l (sl hT) at_0 ?_
            exact kS _ hrd _ _ (s0.trans hs) h1
          | cons _ _ => exact absurd h (by simp; omega)
    · walk_at "go"
      refine uIsi_ty h1 h2 ?_
      walk_at "go"
      exact ift rfl (kN _ (.refl _))
end
mutual
def toD : PyData → DM.D
  | .str s => .s s.cps.toList
  | .int z => .i z
  | .tuple ds => .t (toDs ds)
  | .none => .x
  | .bool _ => .x
  | .list _ => .x
  | .dict _ => .x
def toDs : List PyData → List DM.D
  | [] => []
  | d :: r => toD d :: toDs r
end
mutual
def msz : PyData → Nat
  | .str s => 1 + s.length
  | .int _ => 1
  | .tuple ds => 2 + mszs ds
  | .none => 1
  | .bool _ => 1
  | .list _ => 1
  | .dict _ => 1
def mszs : List PyData → Nat
  | [] => 0
  | d :: r => 1 + msz d + mszs r
end
theorem msz_pos (d : PyData) : 1 ≤ msz d := by
  cases d <;> simp [msz] <;> omega
/-! ### what waits: a text, or data at its depth -/
inductive Wt where
  | tok (s : List Nat)
  | dat (d : PyData) (k : Nat)
def flat : List Wt → Option (List Nat)
  | [] => some []
  | .tok s :: r => (flat r).map fun b => s ++ b
  | .dat d k :: r => (DM.wr (toD d) k).bind fun a => (flat r).map fun b => a ++ b
def wsz : List Wt → Nat
  | [] => 0
  | .tok _ :: r => 1 + wsz r
  | .dat d _ :: r => msz d + wsz r
def cm (k : Nat) : List PyData → List Wt
  | [] => []
  | d :: r => .tok [44] :: .dat d k :: cm k r
theorem wsz_cm (k : Nat) : ∀ (ds : List PyData) (R : List Wt), wsz (cm k ds ++ R) = mszs ds + wsz R
  | [], R => by simp [cm, mszs]
  | d :: r, R => by
    show 1 + (msz d + wsz (cm k r ++ R)) = 1 + msz d + mszs r + wsz R
    rw [wsz_cm k r R]
    omega
theorem flat_cm (k : Nat) (R : List Wt) : ∀ (d : PyData) (r : List PyData), flat (.dat d k :: cm k r ++ R) = (DM.wrs (toDs (d :: r)) k).bind fun a => (flat R).map fun b => a ++ b
  | d, [] => by
    show ((DM.wr (toD d) k).bind fun a => (flat R).map fun b => a ++ b) = _
    rw [toDs, toDs, DM.wrs]
    cases DM.wr (toD d) k <;> rfl
  | d, e :: r => by
    have ih := flat_cm k R e r
    show ((DM.wr (toD d) k).bind fun a => (flat (.tok [44] :: (.dat e k :: cm k r ++ R))).map fun b => a ++ b) = _
    have e1 : toDs (d :: e :: r) = toD d :: toD e :: toDs r := by rw [toDs, toDs]
    have e2 : toDs (e :: r) = toD e :: toDs r := by rw [toDs]
    have e3 : DM.wrs (toD d :: toD e :: toDs r) k = (DM.wr (toD d) k).bind fun a => (DM.wrs (toD e :: toDs r) k).map fun b => a ++ 44 :: b := by rw [DM.wrs]
    rw [flat, ih, e1, e3, e2]
    generalize DM.wrs (toD e :: toDs r) k = z
    cases DM.wr (toD d) k with
    | none => rfl
    | some a =>
      cases z with
      | none => rfl
      | some b =>
        simp only [Option.bind_some, Option.map_some]
        cases flat R with
        | none => rfl
        | some c => simp
theorem joinE : ∀ ls : List (List Nat), TL.joinL [] ls = ls.flatten
  | [] => rfl
  | [p] => by simp [TL.joinL]
  | p :: q :: r => by
    rw [TL.joinL, joinE (q :: r)]
    simp
theorem wsz_len : ∀ {R : List Wt}, R.length ≤ wsz R
  | [] => Nat.le_refl _
  | .tok _ :: r => by
    have := wsz_len (R := r)
    show r.length + 1 ≤ 1 + wsz r
    omega
  | .dat d _ :: r => by
    have := wsz_len (R := r)
    have := msz_pos d
    show r.length + 1 ≤ msz d + wsz r
    omega
inductive WtAt (K : PySem.W.Frag) (H0 H : Hp) : List V → List Wt → Prop
  | nil : WtAt K H0 H [] []
  | tok {a : Addr} {s : List Nat} {vs : List V} {R : List Wt} : H a = some (.tup [.str (S s), .int 0]) → WtAt K H0 H vs R → WtAt K H0 H (.ref a :: vs) (.tok s :: R)
  | dat {a : Addr} {x : V} {d : PyData} {k : Nat} {vs : List V} {R : List Wt} : H a = some (.tup [x, .int (k : Nat)]) → Dp K H0 x d → 1 ≤ k → WtAt K H0 H vs R → WtAt K H0 H (.ref a :: vs) (.dat d k :: R)
theorem WtAt.keep {K : PySem.W.Frag} {H0 H H' : Hp} (k : KeepT H H') : ∀ {vs : List V} {R : List Wt}, WtAt K H0 H vs R → WtAt K H0 H' vs R
  | _, _, .nil => .nil
  | _, _, .tok h r => .tok (k _ _ h) (WtAt.keep k r)
  | _, _, .dat h d e r => .dat (k _ _ h) d e (WtAt.keep k r)
theorem WtAt.len {K : PySem.W.Frag} {H0 H : Hp} : ∀ {vs : List V} {R : List Wt}, WtAt K H0 H vs R → vs.length = R.length
  | _, _, .nil => rfl
  | _, _, .tok _ r => congrArg Nat.succ (WtAt.len r)
  | _, _, .dat _ _ _ r => congrArg Nat.succ (WtAt.len r)
theorem rd_whileW {c : TT} {t : TS} {n b c' : L2.St → Hp → Prop} {r : VK} {σ : L2.St} {H : Hp} (W : Nat → L2.St → Hp → Prop) (m0 : Nat) (h0 : W m0 σ H)
    (hs : ∀ m σ H, W m σ H → c σ H fun b H1 => if b = true then ∃ N : L2.St → Hp → Prop, (∀ σ' H', N σ' H' → ∃ m', m' < m ∧ W m' σ' H') ∧ t ⟨N, r, n, N⟩ σ H1 else n σ H1) : tWhile c t ⟨n, r, b, c'⟩ σ H := ⟨W, ⟨m0, h0⟩, hs⟩
/-- the state of the writing: what waits (the next first) in the list at wl, what is found in the one at fl -/
structure WS (K : PySem.W.Frag) (H0 H : Hp) (wl fl : Addr) (B : Nat) (R : List Wt) (done : List (List Nat)) : Prop where
  same : Same H0 H
  ne : wl ≠ fl
  nw : H0 wl = none
  nf : H0 fl = none
  w : ∃ vs, H wl = some (.lst vs.reverse) ∧ WtAt K H0 H vs R
  f : H fl = some (.lst (txts done))
  few : done.length + wsz R ≤ B
def spWD (K : PySem.W.Frag) (CF : Addr) : Sp := fun vs H Q E => ∃ (v : V) (d : PyData), vs = [v] ∧ Dp K H v d ∧ msz d ≤ 1000000 ∧
  (∀ a, DM.wr (toD d) 1 = some a → a.length ≤ 1000000 ∧ ∀ H', Same H H' → Q (.str (S a)) H') ∧ (DM.wr (toD d) 1 = none → ∀ (H' : Hp) (t : Addr) (m : List Nat), m.length ≤ 100 → Same H H' → H' t = some (.tup [.str (S m)]) → E (.ref CF) (some t) H')
/-- one more waits -/
theorem WS.push {K : PySem.W.Frag} {H0 H : Hp} {wl fl : Addr} {B : Nat} {R : List Wt} {done : List (List Nat)} (h : WS K H0 H wl fl B R done) {q : Addr} (hq : H q = none) {x : V} {k : Nat} {i : Wt}
    (hi : ∀ {H' : Hp} {vs : List V}, H' q = some (.tup [x, .int (k : Nat)]) → WtAt K H0 H' vs R → WtAt K H0 H' (.ref q :: vs) (i :: R)) (hB : done.length + wsz (i :: R) ≤ B) :
    ∃ vs : List V, (upd H q (.tup [x, .int (k : Nat)])) wl = some (.lst vs.reverse) ∧ vs.length = R.length ∧ WS K H0 (upd (upd H q (.tup [x, .int (k : Nat)])) wl (.lst (vs.reverse ++ [V.ref q]))) wl fl B (i :: R) done := by
  obtain ⟨s, ne, nw, nf, ⟨vs, hw, ha⟩, hf, few⟩ := h
  have wq : wl ≠ q := fun e => by rw [e, hq] at hw; cases hw
  have fq : fl ≠ q := fun e => by rw [e, hq] at hf; cases hf
  have hw1 : (upd H q (.tup [x, .int (k : Nat)])) wl = some (.lst vs.reverse) := by rw [upd_ne wq]; exact hw
  refine ⟨vs, hw1, ha.len, ⟨Same.put (s.trans (Same.new hq)) nw, ne, nw, nf, ⟨.ref q :: vs, by rw [upd_same, List.reverse_cons], hi (by rw [upd_ne (Ne.symm wq), upd_same]) (ha.keep ((KeepT.new hq).trans (KeepT.lst hw1)))⟩, ?_, hB⟩⟩
  rw [upd_ne (Ne.symm ne), upd_ne fq]
  exact hf
def Wr (K : PySem.W.Frag) (H : Hp) (v : V) (d : PyData) (wl fl : Addr) (m : Nat) (σ : L2.St) (H' : Hp) : Prop := ∃ (R : List Wt) (done : List (List Nat)) (o3 o4 o5 : Option V), σ = [some v, some (.ref wl), some (.ref fl), o3, o4, o5] ∧ WS K H H' wl fl (msz d) R done ∧ m = wsz R ∧
      DM.wr (toD d) 1 = (flat R).map fun b => done.flatten ++ b
theorem mszs_drop : ∀ (j : Nat) (ds : List PyData), mszs (ds.drop j) ≤ mszs ds
  | 0, ds => Nat.le_refl _
  | j + 1, [] => Nat.le_refl _
  | j + 1, d :: r => by
    have := mszs_drop j r
    show mszs (r.drop j) ≤ 1 + msz d + mszs r
    omega
theorem rd_rng3 {al : TA} {σ : L2.St} {H : Hp} {R : It → Hp → Prop} (q : al σ H fun vs H1 => ∃ (i j c : Int) (n : Nat), vs = [.int i, .int j, .int c] ∧ RgC i j c n ∧ R (Itc i c n) H1) : iRng3 al σ H R := q
def pushed (k : Nat) (ds : List PyData) (j : Nat) : List Wt := if j = 0 then (match ds with | [] => [] | d0 :: r => .dat d0 k :: cm k r) else cm k (ds.drop j)
theorem num_eq (z : Int) : U.num z = DM.num z := rfl
section
variable {P : Program} {w : World} {K : PySem.W.Frag} {mg : Str → Option Value} {base : Heap}
theorem ok_write_data (T : Txt K mg) (look : PySem.W.nsIn K cStatics digName = some none) (F_is_word : Fnn P w K mg base "is_word" 1 P_is_word (spB K wordP)) (F_is_short : Fnn P w K mg base "is_short" 2 P_is_short (spB K shortP)) :
    FnZ famM P w K mg base "write_data" 3 P_write_data (spWD K (CM K)) := by
  refine mkFnZ T.d_write_data T.g_write_data sc_write_data (fun _ _ _ _ _ _ us hl => match us, hl with | [_], _ => rfl) (fun vs H Q E h => ?_) (fun cdv A outer s H vs Q E hr h => ⟨_, ((pss_cons (ps_par (i := 1) (j := 2) rfl sc_write_data.nd rfl rfl (by decide) rfl rfl (pa_cons (pe_lst (pa_cons (pe_tup (pa_cons (pv 0) (pa_cons pe_int pa_nil))) pa_nil)) (pa_cons (pe_lst pa_nil) pa_nil)) rfl)
      (pss_cons (ps_while (passes_of rfl) (pt_cmpR op_uGt (pe_callB (kC (K := K) uLen cr_uLen rfl) rfl T.f_len boot_len (pa_cons (pv 1) pa_nil)) pe_int (nomark _)) (pss_cons (ps_asg (pe_bm0K (K := K) PySem.F.plainAttrs_list PySem.F.slot_list_pop PySem.F.type_list_pop mt_pop (pv 1) rfl) (pg_tupK (K := K) rfl (pgs_cons (pg_name (i := 3) sc_write_data.nd rfl (by first | exact Or.inl rfl | exact Or.inr rfl)) (pgs_cons (pg_name (i := 4) sc_write_data.nd rfl (by first | exact Or.inl rfl | exact Or.inr rfl)) pgs_nil)) rfl))
      (pss_one (ps_if (pt_cmpR (kOp (K := K) uEq (op_uEq hr) rfl) (pv 4) pe_int (nomark _)) (pss_one (ps_expr (pe_bmK (K := K) PySem.F.plainAttrs_list PySem.F.slot_list_append PySem.F.type_list_append mt_append (pv 2) (pa_cons (pv 3) pa_nil) rfl))) (pss_one (ps_if (PW.pt (pw_and (pt_val (pe_callB (kC (K := K) rIsi call_isi rfl) rfl T.f_isinstance boot_isinstance (pa_cons (pv 3) (pa_cons (pe_bltn (v := .ty "tuple") rfl T.f_tuple boot_tuple rfl) pa_nil)))) (pw_and1 (pt_cmpR op_uLe (pv 4) (pe_gI rfl T.c_MOST_DEPTH) (nomark _))))) (pss_cons (ps_expr (pe_bmK (K := K) PySem.F.plainAttrs_list PySem.F.slot_list_append PySem.F.type_list_append mt_append (pv 2) (pa_cons (pe_S [91] (by decide +kernel)) pa_nil) rfl))
      (pss_cons (ps_expr (pe_bmK (K := K) PySem.F.plainAttrs_list PySem.F.slot_list_append PySem.F.type_list_append mt_append (pv 1) (pa_cons (pe_tup (pa_cons (pe_S [93] (by decide +kernel)) (pa_cons pe_int pa_nil))) pa_nil) rfl))
      (pss_one (ps_for (passes_of rfl) rfl (pi_range3 rfl T.f_range (pa_cons (pe_op op_uSub (pe_callB (kC (K := K) uLen cr_uLen rfl) rfl T.f_len boot_len (pa_cons (pv 3) pa_nil)) pe_int) (pa_cons (pe_un un_uNeg pe_int) (pa_cons (pe_un un_uNeg pe_int) pa_nil)))) (pg_name (i := 5) sc_write_data.nd rfl (by first | exact Or.inl rfl | exact Or.inr rfl)) (pss_cons (ps_expr (pe_bmK (K := K) PySem.F.plainAttrs_list PySem.F.slot_list_append PySem.F.type_list_append mt_append (pv 1) (pa_cons (pe_tup (pa_cons (pe_ix (kIx (K := K) rIx ix_u rfl) (pv 3) (pv 5) (fun _ _ => rfl)) (pa_cons (pe_op (kOp (K := K) uAdd op_uAdd rfl) (pv 4) pe_int) pa_nil))) pa_nil) rfl))
      (pss_one (ps_if (pt_cmpR op_uGt (pv 5) pe_int (nomark _)) (pss_one (ps_expr (pe_bmK (K := K) PySem.F.plainAttrs_list PySem.F.slot_list_append PySem.F.type_list_append mt_append (pv 1) (pa_cons (pe_tup (pa_cons (pe_S [44] (by decide +kernel)) (pa_cons pe_int pa_nil))) pa_nil) rfl))) pss_nil))))))) (pss_one (ps_if (PW.pt (pw_or (pt_val (pe_fn F_is_word (hr.mono (by omega)) rfl pa_0 (pa_cons (pv 3) pa_nil))) (pw_or1 (pt_val (pe_fn F_is_short (hr.mono (by omega)) rfl pa_0 (pa_cons (pv 3) pa_nil)))))) (pss_one (ps_expr (pe_bmK (K := K) PySem.F.plainAttrs_list PySem.F.slot_list_append PySem.F.type_list_append mt_append (pv 2) (pa_cons (pe_callTy (cr_uStr rfl look) rfl T.f_str boot_str (pa_cons (pv 3) pa_nil)) pa_nil) rfl))) (pss_one (ps_raiseZ rfl (takes_ofZ rfl rfl rfl rfl) (PMkZ.imp (pmk_msg PySem.F.excBase_ValueError T.x_Malformed T.g_Malformed T.k_Malformed (raises_own T.b_Malformed T.t_Malformed) rfl (pe_S [110, 111, 32, 100, 97, 116, 97] (by decide +kernel))) kZ_mZ)))))))))))
      (pss_one (ps_ret (pe_joinK (K := K) (pe_S [] (by decide +kernel)) (pv 2) rfl)))))), ?_⟩)
  · obtain ⟨v, d, rfl, _⟩ := h
    rfl
  · obtain ⟨v, d, rfl, hd, hB, kS, kN⟩ := h
    rw [show start N_write_data [v] = [some v, none, none, none, none, none] from rfl]
    walk_at "go"
    refine ⟨sz (by simp), fun q hq => ?_⟩
    walk_at "go"
    refine ⟨sz (by simp), fun wl hw => ?_⟩
    walk_at "go"
    refine ⟨sz (by simp), fun fl hf => ?_⟩
    walk_at "go"
    have hqw : q ≠ wl := fun e => by rw [← e, upd_same] at hw; cases hw
    have hfw : fl ≠ wl := fun e => by rw [e, upd_same] at hf; cases hf
    have hfq : fl ≠ q := fun e => by rw [e, upd_ne hqw, upd_same] at hf; cases hf
    have hwn : H wl = none := by rw [upd_ne (Ne.symm hqw)] at hw; exact hw
    have hfn : H fl = none := by rw [upd_ne hfw, upd_ne hfq] at hf; exact hf
    refine rd_whileW (Wr K H v d wl fl) (msz d) ⟨[.dat d 1], [], none, none, none, rfl, ⟨?_, Ne.symm hfw, hwn, hfn, ⟨[.ref q], ?_, .dat (x := v) ?_ hd (Nat.le_refl _) .nil⟩, ?_, ?_⟩, rfl, ?_⟩ ?_
    · exact Same.put (Same.put (Same.put (.refl H) hq) hwn) hfn
    · rw [upd_ne (Ne.symm hfw), upd_same]
      rfl
    · rw [upd_ne (Ne.symm hfq), upd_ne hqw, upd_same]
      rfl
    · rw [upd_same]
      rfl
    · show 0 + (msz d + 0) ≤ msz d
      omega
    · show _ = Option.map _ (flat [.dat d 1])
      rw [flat, flat]
      cases DM.wr (toD d) 1 <;> simp
    rintro m σ H1 ⟨R, done, o3, o4, o5, rfl, hWS, rfl, hmath⟩
    obtain ⟨s1, ne, nw, nf, ⟨vs, hW1, hA1⟩, hF1, few⟩ := id hWS
    have hmB : msz d ≤ 1000000 := hB
    walk_at "go"
    refine uLen_l (sl hW1) ?_
    walk_at "go"
    cases hA1 with
    | nil =>
      refine iff_ rfl ?_
      walk_at "go"
      have hR : DM.wr (toD d) 1 = some done.flatten := by
        rw [hmath]
        simp [flat]
      obtain ⟨h1, h2⟩ := kS _ hR
      refine uJoin_l (sl hF1) ?_ ?_
      · rw [← List.length_flatten]
        simp only [List.length_nil, Nat.mul_zero, Nat.add_zero]
        omega
      · rw [joinE]
        exact h2 _ s1
    | @tok a sx vs R ha hr' =>
      refine ift (by simp) ?_
      refine ⟨_, fun _ _ h => h, ?_⟩
      walk_at "go"
      refine ⟨ty_l (sl hW1), ?_⟩
      refine pop_l (y := .ref a) (xs := vs.reverse) (by rw [hW1, List.reverse_cons]) ?_
      have haw : a ≠ wl := fun e => by rw [e, hW1] at ha; cases ha
      have ha2 : (upd H1 wl (.lst vs.reverse)) a = some (.tup [.str (S sx), .int 0]) := by rw [upd_ne haw]; exact ha
      refine rd_gtup (.inl (.inl ha2)) rfl ?_
      walk_at "go"
      refine ift rfl ?_
      walk_at "go"
      have hF2 : (upd H1 wl (.lst vs.reverse)) fl = some (.lst (txts done)) := by rw [upd_ne (Ne.symm ne)]; exact hF1
      refine ⟨ty_l (sl hF2), ?_⟩
      walk_at "go"
      have hlen := hr'.len
      have hsz := wsz_len (R := R)
      have few' : done.length + (1 + wsz R) ≤ msz d := few
      refine ap_l hF2 (by rw [List.length_map]; exact small (by omega)) ?_
      walk_at "go"
      have kt : KeepT H1 (upd (upd H1 wl (.lst vs.reverse)) fl (.lst (txts done ++ [.str (S sx)]))) := (KeepT.lst hW1).trans (KeepT.lst hF2)
      refine ⟨wsz R, by show wsz R < 1 + wsz R; omega, R, done ++ [sx], _, _, _, rfl, ⟨Same.put (Same.put s1 nw) nf, ne, nw, nf, ⟨vs, ?_, hr'.keep kt⟩, ?_, ?_⟩, rfl, ?_⟩
      · rw [upd_ne ne, upd_same]
      · rw [upd_same]
        simp [txts]
      · simp
        omega
      · rw [hmath, flat]
        cases flat R <;> simp
    | @dat a x dx k vs R ha hdx hk hr' =>
      refine ift (by simp) ?_
      refine ⟨_, fun _ _ h => h, ?_⟩
      walk_at "go"
      refine ⟨ty_l (sl hW1), ?_⟩
      refine pop_l (y := .ref a) (xs := vs.reverse) (by rw [hW1, List.reverse_cons]) ?_
      have haw : a ≠ wl := fun e => by rw [e, hW1] at ha; cases ha
      have ha2 : (upd H1 wl (.lst vs.reverse)) a = some (.tup [x, .int (k : Nat)]) := by rw [upd_ne haw]; exact ha
      refine rd_gtup (.inl (.inl ha2)) rfl ?_
      walk_at "go"
      refine iff_ (decide_eq_false (by omega)) ?_
      walk_at "go"
      have hF2 : (upd H1 wl (.lst vs.reverse)) fl = some (.lst (txts done)) := by rw [upd_ne (Ne.symm ne)]; exact hF1
      have hlen := hr'.len
      have hsz := wsz_len (R := R)
      have few' : done.length + (msz dx + wsz R) ≤ msz d := few
      have hpos := msz_pos dx
      have s2 : Same H (upd H1 wl (.lst vs.reverse)) := Same.put s1 nw
      have hdx2 : Dp K (upd H1 wl (.lst vs.reverse)) x dx := Dp.keep s2 hdx
      have kt : KeepT H1 (upd H1 wl (.lst vs.reverse)) := KeepT.lst hW1
      have hW2 : (upd H1 wl (.lst vs.reverse)) wl = some (.lst vs.reverse) := upd_same
      have bad : DM.wr (toD dx) k = none → ∀ (H' : Hp), Same H H' → ∀ t, H' t = none → E (.ref (CM K)) (some t) (upd H' t (.tup [.str (S [110, 111, 32, 100, 97, 116, 97])])) := fun h H' s t ht => kN (by rw [hmath, flat, h]; rfl) _ t _ (by decide) (s.trans (Same.new ht)) upd_eq
      have fin : ∀ (H4 : Hp) (tx : List Nat) (o5' : Option V), Same (upd H1 wl (.lst vs.reverse)) H4 → DM.wr (toD dx) k = some tx →
          ∃ m', m' < wsz (.dat dx k :: R) ∧ Wr K H v d wl fl m' [some v, some (.ref wl), some (.ref fl), some x, some (.int (k : Nat)), o5'] (upd H4 fl (.lst (txts done ++ [.str (S tx)]))) := fun H4 tx o5' s4 ht => by
        have hF4 := s4 _ _ hF2
        refine ⟨wsz R, by show wsz R < msz dx + wsz R; omega, R, done ++ [tx], _, _, _, rfl, ⟨Same.put (s2.trans s4) nf, ne, nw, nf, ⟨vs, ?_, hr'.keep (kt.trans ((KeepT.of s4).trans (KeepT.lst hF4)))⟩, ?_, ?_⟩, rfl, ?_⟩
        · rw [upd_ne ne]
          exact s4 _ _ hW2
        · rw [upd_same]
          simp [txts]
        · simp
          omega
        · rw [hmath, flat, ht]
          cases flat R <;> simp
      have lenk : lenOk dx := by
        cases dx with
        | str sx =>
          show sx.length ≤ sizeLine
          have : msz (.str sx) = 1 + sx.length := by rw [msz]
          exact Nat.le_of_lt (small (by omega))
        | _ => exact True.intro
      cases hdx2 with
      | tup hq hall =>
        rename_i p xs ds
        refine uIsi_D (.tup hq hall) (b := true) rfl ?_
        walk_at "go"
        refine ift rfl ?_
        walk_at "go"
        refine ifd (fun hk2 => ?_) (fun hk2 => ?_)
        · have hmz : msz (.tuple ds) = 2 + mszs ds := by rw [msz]
          obtain ⟨xs0, hq0, hall0⟩ : ∃ xs0, SqT K H p xs0 ∧ DpAll K H xs0 ds := by
            cases hdx with
            | tup a b => exact ⟨_, a, b⟩
          have hxl := DpAll.len hall0
          walk_at "go"
          refine ⟨ty_l (sl hF2), ?_⟩
          walk_at "go"
          refine ap_l hF2 (by rw [List.length_map]; exact small (by omega)) ?_
          walk_at "go"
          have WS3 : WS K H (upd (upd H1 wl (.lst vs.reverse)) fl (.lst (txts done ++ [.str (S [91])]))) wl fl (msz d) R (done ++ [[91]]) := by
            refine ⟨Same.put s2 nf, ne, nw, nf, ⟨vs, ?_, hr'.keep (kt.trans (KeepT.lst hF2))⟩, ?_, ?_⟩
            · rw [upd_ne ne]
              exact hW2
            · rw [upd_same]
              simp [txts]
            · simp
              omega
          generalize hH3 : upd (upd H1 wl (.lst vs.reverse)) fl (.lst (txts done ++ [.str (S [91])])) = H3 at WS3 ⊢
          obtain ⟨vs3, hW3, _⟩ := WS3.w
          refine ⟨ty_l (sl hW3), ?_⟩
          walk_at "go"
          refine ⟨sz (by simp), fun q3 hq3' => ?_⟩
          walk_at "go"
          obtain ⟨vs4, hW4, hl4, WS4⟩ := WS3.push hq3' (x := .str (S [93])) (k := 0) (i := .tok [93]) (fun h r => .tok h r) (by show (done ++ [[91]]).length + (1 + wsz R) ≤ msz d; simp; omega)
          refine ap_l hW4 (by rw [List.length_reverse, hl4]; exact small (by omega)) ?_
          walk_at "go"
          refine rd_rng3 ?_
          walk_at "go"
          refine uLen_t (SqT.keep WS4.same hq0) ?_
          walk_at "go"
          have hn : xs0.length < 1000000 := by
            rw [hxl]
            have : ∀ l : List PyData, l.length ≤ mszs l := by
              intro l
              induction l with
              | nil => exact Nat.le_refl _
              | cons e r ih =>
                show r.length + 1 ≤ 1 + msz e + mszs r
                omega
            have := this ds
            omega
          refine ⟨_, _, _, _, rfl, RgC.neg (by omega) (by omega) (by omega) (by omega), ?_⟩
          have hcount : ((xs0.length : Int) - 1 - -1).toNat = xs0.length := by omega
          rw [hcount]
          refine fo_it walk_rangeC (fun i σ H' => ∃ (o5' : Option V), σ = [some v, some (.ref wl), some (.ref fl), some (.ref p), some (.int (k : Nat)), o5'] ∧ WS K H H' wl fl (msz d) (pushed (k + 1) ds (ds.length - i) ++ .tok [93] :: R) (done ++ [[91]])) ⟨_, rfl, ?_⟩ (fun _ _ _ _ _ => True.intro) ?_ ?_
          · have e : pushed (k + 1) ds (ds.length - 0) = [] := by
              unfold pushed
              cases ds with
              | nil => rfl
              | cons e r => rw [if_neg (by simp)]; simp [cm]
            rw [e]
            exact WS4
          · rintro i x5 σ H5 H6 hi ⟨o5', rfl, WS5⟩ ⟨rfl, rfl⟩
            have hi2 : i < ds.length := by rw [← hxl]; exact hi
            -- the index
            obtain ⟨j, hj⟩ : ∃ j, ds.length = j + 1 + i := ⟨ds.length - 1 - i, by omega⟩
            have hidx : (xs0.length : Int) - 1 + (i : Nat) * -1 = ((j : Nat) : Int) := by
              rw [hxl, hj]
              omega
            dsimp only
            rw [hidx]
            have hjl : j < xs0.length := by rw [hxl]; omega
            obtain ⟨dd, hdd, hdp⟩ := DpAll.get hall0 (List.getElem?_eq_getElem hjl)
            have hdrop : ds.drop j = dd :: ds.drop (j + 1) := by
              have hj2 : j < ds.length := by omega
              rw [List.drop_eq_getElem_cons hj2]
              rw [List.getElem?_eq_getElem hj2] at hdd
              rw [Option.some.inj hdd]
            have e0 : ds.length - i = j + 1 := by omega
            rw [e0] at WS5
            have e1 : pushed (k + 1) ds (j + 1) = cm (k + 1) (ds.drop (j + 1)) := if_neg (by omega)
            rw [e1] at WS5
            have hb0 := mszs_drop j ds
            rw [hdrop] at hb0
            have hb1 : mszs (dd :: ds.drop (j + 1)) = 1 + msz dd + mszs (ds.drop (j + 1)) := by rw [mszs]
            have hw0 := wsz_cm (k + 1) (ds.drop (j + 1)) (.tok [93] :: R)
            have hw1 : wsz (.tok [93] :: R) = 1 + wsz R := rfl
            have hdl : (done ++ [[91]]).length = done.length + 1 := by simp
            walk_at "go"
            obtain ⟨vs5, hW5, _⟩ := WS5.w
            refine ⟨ty_l (sl hW5), ?_⟩
            walk_at "go"
            refine uIx_t (SqT.keep WS5.same hq0) (atI_nat (List.getElem?_eq_getElem hjl)) ?_
            walk_at "go"
            refine ⟨sz (by simp), fun q5 hq5 => ?_⟩
            walk_at "go"
            obtain ⟨vs6, hW6, hl6, WS6⟩ := WS5.push hq5 (x := xs0[j]) (k := k + 1) (i := .dat dd (k + 1)) (fun h r => .dat h hdp (by omega) r) (by
              rw [hdl]
              show done.length + 1 + (msz dd + wsz (cm (k + 1) (ds.drop (j + 1)) ++ .tok [93] :: R)) ≤ msz d
              omega)
            have hl6' := wsz_len (R := cm (k + 1) (ds.drop (j + 1)) ++ .tok [93] :: R)
            refine ap_l hW6 (by rw [List.length_reverse, hl6]; exact small (by omega)) ?_
            walk_at "go"
            refine ifd (fun hpos => ?_) (fun hpos => ?_)
            · walk_at "go"
              obtain ⟨vs7, hW7, _⟩ := WS6.w
              refine ⟨ty_l (sl hW7), ?_⟩
              walk_at "go"
              refine ⟨sz (by simp), fun q7 hq7 => ?_⟩
              walk_at "go"
              obtain ⟨vs8, hW8, hl8, WS8⟩ := WS6.push hq7 (x := .str (S [44])) (k := 0) (i := .tok [44]) (fun h r => .tok h r) (by
                rw [hdl]
                show done.length + 1 + (1 + (msz dd + wsz (cm (k + 1) (ds.drop (j + 1)) ++ .tok [93] :: R))) ≤ msz d
                omega)
              refine ap_l hW8 (by rw [List.length_reverse, hl8]; exact small (by show (cm (k + 1) (ds.drop (j + 1)) ++ .tok [93] :: R).length + 1 ≤ _; omega)) ?_
              walk_at "go"
              refine ⟨_, rfl, ?_⟩
              have e2 : ds.length - (i + 1) = j := by omega
              have e3 : pushed (k + 1) ds j = .tok [44] :: .dat dd (k + 1) :: cm (k + 1) (ds.drop (j + 1)) := by
                unfold pushed
                rw [if_neg (by omega), hdrop]
                rfl
              rw [e2, e3]
              exact WS8
            · walk_at "go"
              refine ⟨_, rfl, ?_⟩
              have hj0 : j = 0 := by omega
              have e2 : ds.length - (i + 1) = 0 := by omega
              have e3 : pushed (k + 1) ds 0 = .dat dd (k + 1) :: cm (k + 1) (ds.drop (j + 1)) := by
                unfold pushed
                rw [if_pos rfl]
                rw [hj0] at hdrop ⊢
                rw [List.drop_zero] at hdrop
                rw [hdrop]
                rfl
              rw [e2, e3]
              exact WS6
          · rintro σ H5 ⟨o5', rfl, WS5⟩
            rw [hxl, Nat.sub_self] at WS5
            refine ⟨wsz (pushed (k + 1) ds 0 ++ .tok [93] :: R), ?_, _, _, _, _, _, rfl, WS5, rfl, ?_⟩
            · show _ < msz (.tuple ds) + wsz R
              rw [hmz]
              unfold pushed
              rw [if_pos rfl]
              cases ds with
              | nil =>
                show 1 + wsz R < _
                omega
              | cons e r =>
                show msz e + wsz (cm (k + 1) r ++ .tok [93] :: R) < 2 + (1 + msz e + mszs r) + wsz R
                rw [wsz_cm]
                show msz e + (mszs r + (1 + wsz R)) < _
                omega
            · rw [hmath, flat]
              have hw : DM.wr (toD (.tuple ds)) k = (DM.wrs (toDs ds) (k + 1)).map fun l => 91 :: (l ++ [93]) := by rw [toD, DM.wr, if_pos (by omega)]
              rw [hw]
              unfold pushed
              rw [if_pos rfl]
              cases ds with
              | nil =>
                show _ = Option.map _ (flat (.tok [93] :: R))
                rw [toDs, DM.wrs, flat]
                cases flat R <;> simp
              | cons e r =>
                rw [flat_cm, flat]
                generalize DM.wrs (toDs (e :: r)) (k + 1) = z
                cases z with
                | none => rfl
                | some b => cases flat R <;> simp
        · walk_at "go"
          refine ⟨_, _, rfl, .tup hq hall, lenk, fun H3 s3 => ?_⟩
          walk_at "go"
          refine iff_ rfl ?_
          walk_at "go"
          refine ⟨_, _, rfl, Dp.keep s3 (.tup hq hall), lenk, fun H4 s4 => ?_⟩
          walk_at "go"
          refine iff_ rfl ?_
          refine bad ?_ _ (s2.trans (s3.trans s4))
          rw [toD, DM.wr, if_neg (by omega)]
      | str sx =>
        refine uIsi_D (.str sx) (b := false) rfl ?_
        walk_at "go"
        refine iff_ rfl ?_
        refine iff_ rfl ?_
        walk_at "go"
        refine ⟨_, _, rfl, .str sx, lenk, fun H3 s3 => ?_⟩
        walk_at "go"
        have hwr : DM.wr (toD (.str sx)) k = if DM.wordOk sx.cps.toList = true then some sx.cps.toList else none := by rw [toD, DM.wr]
        show if DM.wordOk sx.cps.toList = true then _ else _
        refine ifb (fun hw => ?_) (fun hw => ?_)
        · refine ift rfl ?_
          walk_at "go"
          refine ⟨ty_l (sl (s3 _ _ hF2)), ?_⟩
          walk_at "go"
          refine uStr_s ?_
          walk_at "go"
          refine ap_l (s3 _ _ hF2) (by rw [List.length_map]; exact small (by omega)) ?_
          walk_at "go"
          rw [if_pos hw] at hwr
          have := fin H3 _ o5 s3 hwr
          rw [S_eq] at this
          exact this
        · walk_at "go"
          refine ⟨_, _, rfl, .str sx, lenk, fun H4 s4 => ?_⟩
          walk_at "go"
          refine iff_ rfl ?_
          exact bad (by rw [hwr, if_neg (by rw [hw]; exact Bool.false_ne_true)]) _ (s2.trans (s3.trans s4))
      | int z =>
        refine uIsi_D (.int z) (b := false) rfl ?_
        walk_at "go"
        refine iff_ rfl ?_
        refine iff_ rfl ?_
        walk_at "go"
        refine ⟨_, _, rfl, .int z, lenk, fun H3 s3 => ?_⟩
        walk_at "go"
        refine iff_ rfl ?_
        walk_at "go"
        refine ⟨_, _, rfl, .int z, lenk, fun H4 s4 => ?_⟩
        walk_at "go"
        have hwr : DM.wr (toD (.int z)) k = if DM.short z = true then some (DM.num z) else none := by rw [toD, DM.wr]
        show if DM.short z = true then _ else _
        refine ifb (fun hw => ?_) (fun hw => ?_)
        · walk_at "go"
          refine ⟨ty_l (sl (s4 _ _ (s3 _ _ hF2))), ?_⟩
          walk_at "go"
          refine uStr_i ?_ ?_
          · have h1 := DM.short_iff.mp hw
            exact Nat.lt_of_lt_of_le h1 (Nat.pow_le_pow_right (by decide) (by decide))
          walk_at "go"
          refine ap_l (s4 _ _ (s3 _ _ hF2)) (by rw [List.length_map]; exact small (by omega)) ?_
          walk_at "go"
          rw [if_pos hw] at hwr
          exact fin H4 _ o5 (s3.trans s4) hwr
        · exact bad (by rw [hwr, if_neg (by rw [hw]; exact Bool.false_ne_true)]) _ (s2.trans (s3.trans s4))
      | _ =>
        refine uIsi_D (by first | exact .non | exact .bl _ | exact .lst ‹_› ‹_›) (b := false) rfl ?_
        walk_at "go"
        refine iff_ rfl ?_
        refine iff_ rfl ?_
        walk_at "go"
        refine ⟨_, _, rfl, (by first | exact .non | exact .bl _ | exact .lst ‹_› ‹_›), lenk, fun H3 s3 => ?_⟩
        walk_at "go"
        refine iff_ rfl ?_
        walk_at "go"
        refine ⟨_, _, rfl, Dp.keep s3 (by first | exact .non | exact .bl _ | exact .lst ‹_› ‹_›), lenk, fun H4 s4 => ?_⟩
        walk_at "go"
        refine iff_ rfl ?_
        exact bad (by rw [toD, DM.wr]) _ (s2.trans (s3.trans s4))
end
/-! ### data of texts, numbers, tuples -/
mutual
def pl : PyData → Bool
  | .str _ => true
  | .int _ => true
  | .tuple ds => pls ds
  | .none => false
  | .bool _ => false
  | .list _ => false
  | .dict _ => false
def pls : List PyData → Bool
  | [] => true
  | d :: r => pl d && pls r
end
theorem pls_get : ∀ {ds : List PyData}, pls ds = true → ∀ {i : Nat} {d : PyData}, ds[i]? = some d → pl d = true
  | [], _, i, d, h => by cases i <;> cases h
  | e :: r, hp, 0, d, h => by
    cases h
    rw [pls, Bool.and_eq_true] at hp
    exact hp.1
  | e :: r, hp, i + 1, d, h => by
    rw [pls, Bool.and_eq_true] at hp
    exact pls_get hp.2 (i := i) h
theorem mszs_eq : ∀ ds : List PyData, mszs ds = (ds.map msz).sum + ds.length
  | [] => rfl
  | d :: r => by
    rw [mszs, mszs_eq r]
    simp
    omega
/-- pairs of the same data -/
structure Prd (K : PySem.W.Frag) (H0 H : Hp) (vs : List V) (ds : List PyData) : Prop where
  len : vs.length = ds.length
  at_ : ∀ (j : Nat) (v : V) (d : PyData), vs[j]? = some v → ds[j]? = some d → pl d = true ∧ ∃ (a : Addr) (x y : V), v = V.ref a ∧ H a = some (.tup [x, y]) ∧ Dp K H0 x d ∧ Dp K H0 y d
section
variable {K : PySem.W.Frag} {H0 H H' : Hp} {vs ws : List V} {ds es : List PyData}
theorem Prd.keep (k : KeepT H H') (h : Prd K H0 H vs ds) : Prd K H0 H' vs ds := ⟨h.len, fun j v d hv hd => by
  obtain ⟨hp, a, x, y, e, ha, h1, h2⟩ := h.at_ j v d hv hd
  exact ⟨hp, a, x, y, e, k _ _ ha, h1, h2⟩⟩
theorem Prd.cat (h : Prd K H0 H vs ds) (g : Prd K H0 H ws es) : Prd K H0 H (vs ++ ws) (ds ++ es) := by
  refine ⟨by rw [List.length_append, List.length_append, h.len, g.len], fun j v d hv hd => ?_⟩
  have hl := h.len
  by_cases hj : j < vs.length
  · rw [List.getElem?_append_left hj] at hv
    rw [List.getElem?_append_left (by omega)] at hd
    exact h.at_ j v d hv hd
  · rw [List.getElem?_append_right (by omega)] at hv
    rw [List.getElem?_append_right (by omega), ← hl] at hd
    exact g.at_ _ v d hv hd
theorem Prd.snoc (h : Prd K H0 H vs ds) (hn : vs ≠ []) : ∃ ws es v d, vs = ws ++ [v] ∧ ds = es ++ [d] ∧ Prd K H0 H ws es ∧ pl d = true ∧ ∃ (a : Addr) (x y : V), v = V.ref a ∧ H a = some (.tup [x, y]) ∧ Dp K H0 x d ∧ Dp K H0 y d := by
  have hd : ds ≠ [] := fun e => hn (List.eq_nil_of_length_eq_zero (by rw [h.len, e]; rfl))
  obtain ⟨ws, v, rfl⟩ : ∃ ws v, vs = ws ++ [v] := ⟨vs.dropLast, vs.getLast hn, (List.dropLast_concat_getLast hn).symm⟩
  obtain ⟨es, d, rfl⟩ : ∃ es d, ds = es ++ [d] := ⟨ds.dropLast, ds.getLast hd, (List.dropLast_concat_getLast hd).symm⟩
  have hl : ws.length = es.length := by
    have := h.len
    simpa using this
  refine ⟨ws, es, v, d, rfl, rfl, ⟨hl, fun j u e hu he => h.at_ j u e ?_ ?_⟩, h.at_ ws.length v d (by simp) (by rw [hl]; simp)⟩
  · rw [List.getElem?_append_left (List.getElem?_eq_some_iff.mp hu).1]
    exact hu
  · rw [List.getElem?_append_left (List.getElem?_eq_some_iff.mp he).1]
    exact he
end
def spSame (K : PySem.W.Frag) : Sp := fun vs H Q _ => ∃ (v u : V) (d : PyData), vs = [v, u] ∧ Dp K H v d ∧ Dp K H u d ∧ pl d = true ∧ msz d ≤ 1000000 ∧ ∀ H', Same H H' → Q (.bl true) H'
def SW (K : PySem.W.Frag) (H : Hp) (v u : V) (wl : Addr) (B : Nat) (m : Nat) (σ : L2.St) (H' : Hp) : Prop := ∃ (vs : List V) (ds : List PyData) (o3 o4 : Option V), σ = [some v, some u, some (.ref wl), o3, o4] ∧ Same H H' ∧ H wl = none ∧ H' wl = some (.lst vs) ∧ Prd K H H' vs ds ∧ m = (ds.map msz).sum ∧ m ≤ B
theorem len_msz : ∀ ds : List PyData, ds.length ≤ (ds.map msz).sum
  | [] => Nat.le_refl _
  | d :: r => by
    have := len_msz r
    have := msz_pos d
    simp
    omega
section
variable {P : Program} {w : World} {K : PySem.W.Frag} {mg : Str → Option Value} {base : Heap}
theorem ok_same (T : Txt K mg) : Fnn P w K mg base "same" 1 P_same (spSame K) := by
  refine mkFnn T.d_same T.g_same sc_same (fun _ _ _ _ _ _ us hl => match us, hl with | [_, _], _ => rfl) (fun vs H Q E h => ?_) (fun cdv A outer s H vs Q E hr h => ⟨_, ((pss_cons (ps_set (i := 2) sc_same.nd rfl (by first | exact Or.inl rfl | exact Or.inr rfl) (pe_lst (pa_cons (pe_tup (pa_cons (pv 0) (pa_cons (pv 1) pa_nil))) pa_nil)))
      (pss_cons (ps_while (passes_of rfl) (pt_cmpR op_uGt (pe_callB (kC (K := K) uLen cr_uLen rfl) rfl T.f_len boot_len (pa_cons (pv 2) pa_nil)) pe_int (nomark _)) (pss_cons (ps_asg (pe_bm0K (K := K) PySem.F.plainAttrs_list PySem.F.slot_list_pop PySem.F.type_list_pop mt_pop (pv 2) rfl) (pg_tupK (K := K) rfl (pgs_cons (pg_name (i := 3) sc_same.nd rfl (by first | exact Or.inl rfl | exact Or.inr rfl)) (pgs_cons (pg_name (i := 4) sc_same.nd rfl (by first | exact Or.inl rfl | exact Or.inr rfl)) pgs_nil)) rfl))
      (pss_one (ps_if (PW.pt (pw_and (pt_val (pe_callB (kC (K := K) rIsi call_isi rfl) rfl T.f_isinstance boot_isinstance (pa_cons (pv 3) (pa_cons (pe_bltn (v := .ty "tuple") rfl T.f_tuple boot_tuple rfl) pa_nil)))) (pw_and1 (pt_val (pe_callB (kC (K := K) rIsi call_isi rfl) rfl T.f_isinstance boot_isinstance (pa_cons (pv 4) (pa_cons (pe_bltn (v := .ty "tuple") rfl T.f_tuple boot_tuple rfl) pa_nil))))))) (pss_cons (ps_if (pt_cmpR (kOp (K := K) uNe (op_uNe hr) rfl) (pe_callB (kC (K := K) uLen cr_uLen rfl) rfl T.f_len boot_len (pa_cons (pv 3) pa_nil)) (pe_callB (kC (K := K) uLen cr_uLen rfl) rfl T.f_len boot_len (pa_cons (pv 4) pa_nil)) (nomark _)) (pss_one (ps_ret pe_bl)) pss_nil)
      (pss_one (ps_expr (pe_bmK (K := K) PySem.F.plainAttrs_list PySem.F.slot_list_extend PySem.F.type_list_extend mt_extend (pv 2) (pa_cons (pe_listZipK (K := K) rfl T.f_list rfl T.f_zip (pa_cons (pv 3) (pa_cons (pv 4) pa_nil)) rfl) pa_nil) rfl)))) (pss_one (ps_if (PW.pt (pw_or (pt_cmpR (kOp (K := K) uNe (op_uNe hr) rfl) (pe_callB (kC (K := K) rIsi call_isi rfl) rfl T.f_isinstance boot_isinstance (pa_cons (pv 3) (pa_cons (pe_bltn (v := .ty "bool") rfl T.f_bool boot_bool rfl) pa_nil))) (pe_callB (kC (K := K) rIsi call_isi rfl) rfl T.f_isinstance boot_isinstance (pa_cons (pv 4) (pa_cons (pe_bltn (v := .ty "bool") rfl T.f_bool boot_bool rfl) pa_nil))) (nomark _)) (pw_or1 (pt_cmpR (kOp (K := K) uNe (op_uNe hr) rfl) (pv 3) (pv 4) (nomark _))))) (pss_one (ps_ret pe_bl)) pss_nil))))))
      (pss_one (ps_ret pe_bl))))), ?_⟩)
  · obtain ⟨v, u, d, rfl, _⟩ := h
    rfl
  · obtain ⟨v, u, d, rfl, hv, hu, hp, hB, k⟩ := h
    rw [show start N_same [v, u] = [some v, some u, none, none, none] from rfl]
    walk_at "go"
    refine ⟨sz (by simp), fun q hq => ?_⟩
    walk_at "go"
    refine ⟨sz (by simp), fun wl hw => ?_⟩
    walk_at "go"
    have hqw : q ≠ wl := fun e => by rw [e, upd_same] at hw; cases hw
    have hwn : H wl = none := by rw [upd_ne (Ne.symm hqw)] at hw; exact hw
    refine rd_whileW (SW K H v u wl (msz d)) (msz d) ⟨[.ref q], [d], none, none, rfl, Same.put (Same.new hq) hwn, hwn, upd_same, ⟨rfl, fun j x e hx he => ?_⟩, by simp, Nat.le_refl _⟩ ?_
    · cases j with
      | zero =>
        cases hx
        cases he
        exact ⟨hp, q, v, u, rfl, by rw [upd_ne hqw, upd_same], hv, hu⟩
      | succ j => cases hx
    rintro m σ H1 ⟨vs, ds, o3, o4, rfl, s1, _, hW1, hP, rfl, hm⟩
    walk_at "go"
    refine uLen_l (sl hW1) ?_
    walk_at "go"
    have hlen := hP.len
    have hlm := len_msz ds
    refine ifd (fun hpos => ?_) (fun hneg => ?_)
    · refine ⟨_, fun _ _ h => h, ?_⟩
      obtain ⟨ws, es, x, e, rfl, rfl, hP1, hpe, a, y, z, rfl, ha, hy, hz⟩ := hP.snoc (fun e => by rw [e] at hpos; simp at hpos)
      walk_at "go"
      refine ⟨ty_l (sl hW1), ?_⟩
      refine pop_l (y := .ref a) (xs := ws) hW1 ?_
      have haw : a ≠ wl := fun e => by rw [e, hW1] at ha; cases ha
      have ha2 : (upd H1 wl (.lst ws)) a = some (.tup [y, z]) := by rw [upd_ne haw]; exact ha
      refine rd_gtup (.inl (.inl ha2)) rfl ?_
      walk_at "go"
      have s2 : Same H (upd H1 wl (.lst ws)) := Same.put s1 hwn
      have hy2 := Dp.keep s2 hy
      have hz2 := Dp.keep s2 hz
      have hW2 : (upd H1 wl (.lst ws)) wl = some (.lst ws) := upd_same
      have kt : KeepT H1 (upd H1 wl (.lst ws)) := KeepT.lst hW1
      have hsum : ((es ++ [e]).map msz).sum = (es.map msz).sum + msz e := by simp
      have hpos' := msz_pos e
      have leaf : ∃ m', m' < ((es ++ [e]).map msz).sum ∧ SW K H v u wl (msz d) m' [some v, some u, some (.ref wl), some y, some z] (upd H1 wl (.lst ws)) :=
        ⟨(es.map msz).sum, by omega, ws, es, _, _, rfl, s2, hwn, hW2, hP1.keep kt, rfl, by omega⟩
      cases e with
      | none => exact absurd hpe Bool.false_ne_true
      | bool b => exact absurd hpe Bool.false_ne_true
      | list b => exact absurd hpe Bool.false_ne_true
      | dict b => exact absurd hpe Bool.false_ne_true
      | int i =>
        cases hy2
        cases hz2
        refine uIsi_D (.int i) (b := false) rfl ?_
        walk_at "go"
        refine iff_ rfl ?_
        walk_at "go"
        refine iff_ rfl ?_
        walk_at "go"
        refine uIsi_D (.int i) (b := false) rfl ?_
        walk_at "go"
        refine uIsi_D (.int i) (b := false) rfl ?_
        walk_at "go"
        refine uNe_v rfl ?_
        walk_at "go"
        refine iff_ rfl ?_
        walk_at "go"
        refine iff_ (by simp) ?_
        walk_at "go"
        exact leaf
      | str i =>
        cases hy2
        cases hz2
        refine uIsi_D (.str i) (b := false) rfl ?_
        walk_at "go"
        refine iff_ rfl ?_
        walk_at "go"
        refine iff_ rfl ?_
        walk_at "go"
        refine uIsi_D (.str i) (b := false) rfl ?_
        walk_at "go"
        refine uIsi_D (.str i) (b := false) rfl ?_
        walk_at "go"
        refine uNe_v rfl ?_
        walk_at "go"
        refine iff_ rfl ?_
        walk_at "go"
        refine iff_ (by simp) ?_
        walk_at "go"
        exact leaf
      | tuple fs =>
        refine uIsi_D hy2 (b := true) rfl ?_
        walk_at "go"
        refine ift rfl ?_
        walk_at "go"
        refine uIsi_D hz2 (b := true) rfl ?_
        walk_at "go"
        refine ift rfl ?_
        walk_at "go"
        cases hy with
        | @tup ay xs _ hay' hxs' =>
        cases hz with
        | @tup az ys _ haz' hys' =>
        have hay := SqT.keep s2 hay'
        have haz := SqT.keep s2 haz'
        have lx := DpAll.len hxs'
        have ly := DpAll.len hys'
        refine uLen_t hay ?_
        walk_at "go"
        refine uLen_t haz ?_
        walk_at "go"
        refine iff_ (by rw [lx, ly]; simp) ?_
        walk_at "go"
        refine ⟨ty_l (sl hW2), ?_⟩
        refine rd_cons ?_
        refine rd_lz ?_
        walk_at "go"
        have hfs : msz (.tuple fs) = 2 + ((fs.map msz).sum + fs.length) := by rw [msz, mszs_eq]
        refine ⟨ay, az, xs, ys, rfl, hay, haz, by rw [lx, ly], Nat.le_of_lt (small (by omega)), fun H' q' ts zd => ?_⟩
        walk_at "go"
        have hW3 : H' wl = some (.lst ws) := zd.same _ _ hW2
        have hwl := hP1.len
        have hsl := len_msz es
        refine ext_l hW3 zd.l (by rw [List.length_map, zd.n, lx]; exact Nat.le_of_lt (small (by omega))) ?_
        walk_at "go"
        have hqw' : q' ≠ wl := fun e => by
          have := zd.nq
          rw [e, hW2] at this
          cases this
        refine ⟨((es ++ fs).map msz).sum, by simp; omega, ws ++ ts.map V.ref, es ++ fs, _, _, rfl, Same.put (s2.trans zd.same) hwn, hwn, upd_same, Prd.keep (KeepT.lst hW3) (Prd.cat ((hP1.keep kt).keep (KeepT.of zd.same)) ⟨by rw [List.length_map, zd.n, lx], fun j t f ht hf => ?_⟩), rfl, by simp; omega⟩
        have hj : j < fs.length := (List.getElem?_eq_some_iff.mp hf).1
        have hxj : xs[j]? = some xs[j] := List.getElem?_eq_getElem (by omega)
        have hyj : ys[j]? = some ys[j] := List.getElem?_eq_getElem (by omega)
        obtain ⟨t', h1, h2⟩ := zd.at_ j _ _ (by omega) hxj hyj
        rw [List.getElem?_map, h1] at ht
        cases ht
        obtain ⟨f1, g1, k1⟩ := DpAll.get hxs' hxj
        obtain ⟨f2, g2, k2⟩ := DpAll.get hys' hyj
        rw [hf] at g1 g2
        cases g1
        cases g2
        exact ⟨pls_get hpe hf, t', _, _, rfl, h2, k1, k2⟩
    · walk_at "go"
      exact k _ s1
end
abbrev CP (K : PySem.W.Frag) : Addr := He.ga K "Reply"
abbrev rpF (k t d : V) : List (Str × V) := [("kind", k), ("text", t), ("data", d)]
def RpAt (K : PySem.W.Frag) (H : Hp) (r : Addr) (k t d : V) : Prop := ∃ dx, H r = some (.ins (CP K) dx (rpF k t d))
theorem RpAt.keep {K : PySem.W.Frag} {H H' : Hp} {r : Addr} {k t d : V} (e : Same H H') (h : RpAt K H r k t d) : RpAt K H' r k t d := h.imp fun _ h => e _ _ h
theorem rp_kind {k t d : V} : (rpF k t d).lookup ("kind" : Str) = some k := lk_here
theorem rp_text {k t d : V} : (rpF k t d).lookup ("text" : Str) = some t := (lk_past (by decide +kernel)).trans lk_here
theorem rp_data {k t d : V} : (rpF k t d).lookup ("data" : Str) = some d := (lk_past (by decide +kernel)).trans ((lk_past (by decide +kernel)).trans lk_here)
def spRInit (K : PySem.W.Frag) : Sp := fun vs H Q _ => ∃ (r dx : Addr) (k t d : V), vs = [.ref r, k, t, d] ∧ H r = some (.ins (CP K) dx []) ∧ Q .non (upd H r (.ins (CP K) dx (rpF k t d)))
abbrev rpD (K : PySem.W.Frag) : List V := [.str (S []), .ref (He.dflAt ("Reply", some "__init__") 1 K)]
def textP : PyData → Bool
  | .str s => !decide (10 ∈ s.cps.toList)
  | _ => false
/-- two replies of the same data -/
def RpEq (K : PySem.W.Frag) (a b : Addr) (H : Hp) : Prop := ∃ (k t d k' t' d' : V) (dk dt dd : PyData), RpAt K H a k t d ∧ RpAt K H b k' t' d' ∧ Dp K H k dk ∧ Dp K H k' dk ∧ Dp K H t dt ∧ Dp K H t' dt ∧ Dp K H d dd ∧ Dp K H d' dd ∧ pl dk = true ∧ pl dt = true ∧ pl dd = true ∧ msz (.tuple [dk, dt, dd]) ≤ 1000000
theorem RpEq.mon {K : PySem.W.Frag} {a b : Addr} {H H' : Hp} (e : Ext H H') (h : RpEq K a b H) : RpEq K a b H' := by
  obtain ⟨k, t, d, k', t', d', dk, dt, dd, h1, h2, h3, h4, h5, h6, h7, h8, r⟩ := h
  exact ⟨k, t, d, k', t', d', dk, dt, dd, h1.keep e, h2.keep e, Dp.keep e h3, Dp.keep e h4, Dp.keep e h5, Dp.keep e h6, Dp.keep e h7, Dp.keep e h8, r⟩
section
variable {P : Program} {w : World} {K : PySem.W.Frag} {mg : Str → Option Value} {base : Heap}
theorem ok_Reply___init__ (T : Txt K mg) : Fnd P w K mg base (CP K) "__init__" 1 P_Reply___init__ (rpD K) (spRInit K) := by
  obtain ⟨fd, D⟩ := T.d_Reply___init__
  refine ⟨fd, D.ok sc_Reply___init__ (fun vs H Q E h => ?_) (fun cdv A outer s H vs Q E hr h => ⟨_, ((pss_cons (ps_fldK (K := K) (pv 0) (pv 1) rfl)
      (pss_cons (ps_fldK (K := K) (pv 0) (pv 2) rfl)
      (pss_one (ps_fldK (K := K) (pv 0) (pv 3) rfl))))), ?_⟩), T.mt_Reply___init__, fun j hj => ?_⟩
  · obtain ⟨r, dx, k, t, d, rfl, _⟩ := h
    rfl
  · obtain ⟨r, dx, k, t, d, rfl, hr0, q⟩ := h
    rw [show start N_Reply___init__ [V.ref r, k, t, d] = [some (V.ref r), some k, some t, some d] from rfl]
    walk_at "go"
    refine sfld_at hr0 T.cl_Reply T.na_Reply_kind (by decide) ?_
    rw [show putF "kind" k [] = [(("kind" : Str), k)] from rfl]
    walk_at "go"
    refine sfld_at upd_same T.cl_Reply T.na_Reply_text (by show 1 < 1000; decide) ?_
    rw [show putF "text" t [(("kind" : Str), k)] = [(("kind" : Str), k), (("text" : Str), t)] from put_past (by decide +kernel)]
    walk_at "go"
    refine sfld_at upd_same T.cl_Reply T.na_Reply_data (by show 2 < 1000; decide) ?_
    walk_at "go"
    have e : putF "data" d [(("kind" : Str), k), (("text" : Str), t)] = rpF k t d := by
      rw [put_past (by decide +kernel), put_past (by decide +kernel)]
      rfl
    rw [upd_upd, upd_upd, e]
    exact q
  · have hj : j ≤ 2 := hj
    match j, hj with
    | 0, _ => exact D.binds1 2 0 (by simp [He.DefD.dvs, d_Reply___init__]) rfl fun T kV doc pm an cdv ct us its h1 h2 => match us, its, h1, h2 with | [_, _], [_, _], _, _ => ⟨_, rfl, rfl⟩
    | 1, _ => exact D.binds1 3 1 (by simp [He.DefD.dvs, d_Reply___init__]) rfl fun T kV doc pm an cdv ct us its h1 h2 => match us, its, h1, h2 with | [_, _, _], [_, _], _, _ => ⟨_, rfl, rfl⟩
    | 2, _ => exact D.binds1 4 2 (by simp [He.DefD.dvs, d_Reply___init__]) rfl fun T kV doc pm an cdv ct us its h1 h2 => match us, its, h1, h2 with | [_, _, _, _], [_, _], _, _ => ⟨_, rfl, rfl⟩
theorem ok_Reply___eq__ (T : Txt K mg) (F_same : Fnn P w K mg base "same" 1 P_same (spSame K)) : Fnm P w K mg base (CP K) "__eq__" 2 P_Reply___eq__ (spEq (RpEq K)) := by
  refine mkFnm T.d_Reply___eq__ T.mt_Reply___eq__ sc_Reply___eq__ (fun _ _ _ _ _ _ us hl => match us, hl with | [_, _], _ => rfl) (fun vs H Q E h => ?_) (fun cdv A outer s H vs Q E hr h => ⟨_, ((pss_cons (ps_if (pt_not (pt_val (pe_callB (kC (K := K) rIsi call_isi rfl) rfl T.f_isinstance boot_isinstance (pa_cons (pv 1) (pa_cons (pe_glob (v := .ref _) rfl T.g_Reply rfl) pa_nil))))) (pss_one (ps_ret pe_bl)) pss_nil)
      (pss_one (ps_ret (pe_fn F_same (hr.mono (by omega)) rfl (pa_tk (takes_of rfl rfl rfl rfl)) (pa_cons (pe_tup (pa_cons (pe_fldK (K := K) (pv 0) rfl) (pa_cons (pe_fldK (K := K) (pv 0) rfl) (pa_cons (pe_fldK (K := K) (pv 0) rfl) pa_nil)))) (pa_cons (pe_tup (pa_cons (pe_fldK (K := K) (pv 1) rfl) (pa_cons (pe_fldK (K := K) (pv 1) rfl) (pa_cons (pe_fldK (K := K) (pv 1) rfl) pa_nil)))) pa_nil))))))), ?_⟩)
  · obtain ⟨a, b, rfl, _⟩ := h
    rfl
  · obtain ⟨a, b, rfl, hR, q⟩ := h
    obtain ⟨k, t, d, k', t', d', dk, dt, dd, ⟨dx, h1⟩, ⟨dy, h2⟩, h3, h4, h5, h6, h7, h8, p1, p2, p3, hz⟩ := hR
    rw [show start N_Reply___eq__ [V.ref a, V.ref b] = [some (V.ref a), some (V.ref b)] from rfl]
    walk_at "go"
    refine uIsi_own T.i_Reply T.cl_Reply h2 ?_
    walk_at "go"
    refine iff_ rfl ?_
    walk_at "go"
    refine fld_at h1 T.cl_Reply T.na_Reply_kind rp_kind ?_
    walk_at "go"
    refine fld_at h1 T.cl_Reply T.na_Reply_text rp_text ?_
    walk_at "go"
    refine fld_at h1 T.cl_Reply T.na_Reply_data rp_data ?_
    walk_at "go"
    refine ⟨sz (by simp), fun p hp => ?_⟩
    have e1 : Same H (upd H p (.tup [k, t, d])) := Same.new hp
    walk_at "go"
    refine fld_at (e1 _ _ h2) T.cl_Reply T.na_Reply_kind rp_kind ?_
    walk_at "go"
    refine fld_at (e1 _ _ h2) T.cl_Reply T.na_Reply_text rp_text ?_
    walk_at "go"
    refine fld_at (e1 _ _ h2) T.cl_Reply T.na_Reply_data rp_data ?_
    walk_at "go"
    refine ⟨sz (by simp), fun p' hp' => ?_⟩
    have e2 : Same H (upd (upd H p (.tup [k, t, d])) p' (.tup [k', t', d'])) := e1.trans (Same.new hp')
    have ne : p ≠ p' := fun e => by rw [e, upd_same] at hp'; cases hp'
    walk_at "go"
    refine ⟨.ref p, .ref p', .tuple [dk, dt, dd], rfl, .tup (.of (by rw [upd_ne ne, upd_same])) (.cons (Dp.keep e2 h3) (.cons (Dp.keep e2 h5) (.cons (Dp.keep e2 h7) .nil))), .tup (.of upd_same) (.cons (Dp.keep e2 h4) (.cons (Dp.keep e2 h6) (.cons (Dp.keep e2 h8) .nil))), ?_, hz, fun H' s' => q _ (e2.trans s')⟩
    show (pl dk && (pl dt && (pl dd && true))) = true
    rw [p1, p2, p3]
    rfl
theorem ok_is_text (T : Txt K mg) : Fnn P w K mg base "is_text" 1 P_is_text (spB K textP) := by
  refine mkFnn T.d_is_text T.g_is_text sc_is_text (fun _ _ _ _ _ _ us hl => match us, hl with | [_], _ => rfl) (fun vs H Q E h => ?_) (fun cdv A outer s H vs Q E hr h => ⟨_, ((pss_one (ps_ret (pe_and (pe_callB (kC (K := K) rIsi call_isi rfl) rfl T.f_isinstance boot_isinstance (pa_cons (pv 0) (pa_cons (pe_bltn (v := .ty "str") rfl T.f_str boot_str rfl) pa_nil))) (pe_one (pe_cmpR (kOp (K := K) uNin op_uNin rfl) (pe_S [10] (by decide +kernel)) (pv 0) (by with_unfolding_all rfl))))))), ?_⟩)
  · obtain ⟨v, d, rfl, _⟩ := h
    rfl
  · obtain ⟨v, d, rfl, hd, hz, k⟩ := h
    rw [show start N_is_text [v] = [some v] from rfl]
    walk_at "go"
    cases hd with
    | str x =>
      obtain ⟨l, rfl⟩ : ∃ l, x = S l := ⟨_, (S_eq x).symm⟩
      refine uIsi_D (.str _) (b := true) rfl ?_
      walk_at "go"
      refine ift rfl ?_
      walk_at "go"
      exact k _ (.refl _)
    | non =>
      refine uIsi_D .non (b := false) rfl ?_
      walk_at "go"
      refine iff_ rfl ?_
      walk_at "go"
      exact k _ (.refl _)
    | bl b =>
      refine uIsi_D (.bl b) (b := false) rfl ?_
      walk_at "go"
      refine iff_ rfl ?_
      walk_at "go"
      exact k _ (.refl _)
    | int i =>
      refine uIsi_D (.int i) (b := false) rfl ?_
      walk_at "go"
      refine iff_ rfl ?_
      walk_at "go"
      exact k _ (.refl _)
    | lst h1 h2 =>
      refine uIsi_D (.lst h1 h2) (b := false) rfl ?_
      walk_at "go"
      refine iff_ rfl ?_
      walk_at "go"
      exact k _ (.refl _)
    | tup h1 h2 =>
      refine uIsi_D (.tup h1 h2) (b := false) rfl ?_
      walk_at "go"
      refine iff_ rfl ?_
      walk_at "go"
      exact k _ (.refl _)
end
/-! ### entries: what write_diary makes of them -/
def lenS : PyData → Prop
  | .str s => s.length ≤ 1000000
  | _ => True
theorem lenS.ok {d : PyData} (h : lenS d) : lenOk d := by
  cases d <;> try trivial
  exact Nat.le_of_lt (small (by have : _ ≤ 1000000 := h; omega))
def strL : PyData → List Nat
  | .str s => s.cps.toList
  | _ => []
def isTup : PyData → Bool
  | .tuple _ => true
  | _ => false
/-- the three rows of an entry -/
def repTx (l : List Nat) (dk dt dv : PyData) : Option (List (List Nat)) :=
  if wordP dk && (textP dt && isTup dv) then (DM.wr (toD dv) 1).map fun a => [[62, 32] ++ l ++ [10], [61, 32] ++ strL dk ++ [32] ++ strL dt ++ [10], [35, 32] ++ a ++ [10]] else none
inductive EntAt (K : PySem.W.Frag) (H : Hp) : V → Option (List (List Nat)) → Prop
  | notT {v : V} {n : String} : TyX K H v (.type n) → kitB n "tuple" = some false → EntAt K H v none
  | len {a : Addr} {xs : List V} : SqT K H a xs → xs.length ≠ 2 → EntAt K H (.ref a) none
  | line {a : Addr} {x y : V} {d : PyData} : SqT K H a [x, y] → Dp K H x d → lenOk d → textP d = false → EntAt K H (.ref a) none
  | noR {a : Addr} {l : List Nat} {y : V} {n : String} : SqT K H a [.str (S l), y] → l.length ≤ 1000000 → 10 ∉ l → TyX K H y (.type n) → n ∈ ["NoneType", "bool", "int", "str", "list", "tuple"] → EntAt K H (.ref a) none
  | rep {a r : Addr} {l : List Nat} {k t v : V} {dk dt dv : PyData} : SqT K H a [.str (S l), .ref r] → l.length ≤ 1000000 → 10 ∉ l → RpAt K H r k t v → Dp K H k dk → lenS dk → Dp K H t dt → lenS dt → Dp K H v dv → msz dv ≤ 1000000 →
      (∀ a, DM.wr (toD dv) 1 = some a → a.length ≤ 1000000) → EntAt K H (.ref a) (repTx l dk dt dv)
theorem TyX.keep {K : PySem.W.Frag} {H H' : Hp} (s : Same H H') {v : V} {t : Value} (h : TyX K H v t) : TyX K H' v t := by
  cases h with
  | base b =>
    refine .base ?_
    cases b with
    | non => exact .non
    | bl x => exact .bl x
    | int x => exact .int x
    | str x => exact .str x
    | flt x => exact .flt x
    | lst e => exact .lst (s _ _ e)
    | frz e => exact .frz (s _ _ e)
    | tup e => exact .tup (s _ _ e)
    | dK e => exact .dK (s _ _ e)
    | dT e => exact .dT (s _ _ e)
    | ins e a b c d f => exact .ins (s _ _ e) a b c d f
  | byt b => exact .byt b
  | set e => exact .set (s _ _ e)
  | kList e c => exact .kList e c
  | kTuple e c => exact .kTuple e c
  | kDict e c => exact .kDict e c
  | fTuple e => exact .fTuple (s _ _ e)
  | fDict e => exact .fDict (s _ _ e)
theorem EntAt.keep {K : PySem.W.Frag} {H H' : Hp} (s : Same H H') {v : V} {o : Option (List (List Nat))} (h : EntAt K H v o) : EntAt K H' v o := by
  cases h with
  | notT a b => exact .notT (TyX.keep s a) b
  | len a b => exact .len (SqT.keep s a) b
  | line a b c d => exact .line (SqT.keep s a) (Dp.keep s b) c d
  | noR a b c d e => exact .noR (SqT.keep s a) b c (TyX.keep s d) e
  | rep a b c d e f g h i j k => exact .rep (SqT.keep s a) b c (d.keep s) (Dp.keep s e) f (Dp.keep s g) h (Dp.keep s i) j k
inductive EntAll (K : PySem.W.Frag) (H : Hp) : List V → List (Option (List (List Nat))) → Prop
  | nil : EntAll K H [] []
  | cons {v : V} {vs : List V} {o : Option (List (List Nat))} {os : List (Option (List (List Nat)))} : EntAt K H v o → EntAll K H vs os → EntAll K H (v :: vs) (o :: os)
theorem EntAll.len {K : PySem.W.Frag} {H : Hp} : ∀ {vs : List V} {os : List (Option (List (List Nat)))}, EntAll K H vs os → vs.length = os.length
  | _, _, .nil => rfl
  | _, _, .cons _ h => congrArg Nat.succ h.len
theorem EntAll.get {K : PySem.W.Frag} {H : Hp} : ∀ {vs : List V} {os : List (Option (List (List Nat)))}, EntAll K H vs os → ∀ {i : Nat} {v : V}, vs[i]? = some v → ∃ o, os[i]? = some o ∧ EntAt K H v o
  | _, _, .nil, i, v, h => by cases i <;> cases h
  | _, _, .cons h _, 0, v, e => by
    cases e
    exact ⟨_, rfl, h⟩
  | _, _, .cons _ h, i + 1, v, e => EntAll.get h (i := i) e
theorem EntAll.snoc {K : PySem.W.Frag} {H : Hp} {v : V} {o : Option (List (List Nat))} : ∀ {vs : List V} {os : List (Option (List (List Nat)))}, EntAll K H vs os → EntAt K H v o → EntAll K H (vs ++ [v]) (os ++ [o])
  | _, _, .nil, q => .cons q .nil
  | _, _, .cons h r, q => .cons h (EntAll.snoc r q)
theorem EntAll.keep {K : PySem.W.Frag} {H H' : Hp} (s : Same H H') : ∀ {vs : List V} {os : List (Option (List (List Nat)))}, EntAll K H vs os → EntAll K H' vs os
  | _, _, .nil => .nil
  | _, _, .cons h r => .cons (h.keep s) (EntAll.keep s r)
def seqO : List (Option (List (List Nat))) → Option (List (List Nat))
  | [] => some []
  | o :: r => o.bind fun a => (seqO r).map fun b => a ++ b
def spWDi (K : PySem.W.Frag) (CF : Addr) : Sp := fun vs H Q E => ∃ v : V, vs = [v] ∧
  ((∃ n, TyX K H v (.type n) ∧ kitB n "list" = some false ∧ ∀ (H' : Hp) (t : Addr) (m : List Nat), m.length ≤ 100 → Same H H' → H' t = some (.tup [.str (S m)]) → E (.ref CF) (some t) H') ∨
   (∃ (p : Addr) (xs : List V) (os : List (Option (List (List Nat)))), v = .ref p ∧ SqL K H p xs ∧ EntAll K H xs os ∧ xs.length ≤ 100000 ∧
     (∀ ls, seqO os = some ls → ls.flatten.length ≤ 1000000 ∧ ∀ H', Same H H' → Q (.str (S ls.flatten)) H') ∧
     (seqO os = none → ∀ (H' : Hp) (t : Addr) (m : List Nat), m.length ≤ 100 → Same H H' → H' t = some (.tup [.str (S m)]) → E (.ref CF) (some t) H')))
theorem SqL.keep {K : PySem.W.Frag} {H H' : Hp} (s : Same H H') {a : Addr} {xs : List V} (h : SqL K H a xs) : SqL K H' a xs := by
  rcases h with (h | ⟨o, h⟩) | h
  · exact .inl (.inl (s _ _ h))
  · exact .inl (.inr ⟨o, s _ _ h⟩)
  · exact .inr h
/-- what stands in the loop -/
def DI (K : PySem.W.Frag) (H : Hp) (p fl : Addr) (os : List (Option (List (List Nat)))) (i : Nat) (σ : L2.St) (H' : Hp) : Prop := ∃ (done : List (List Nat)) (o2 o3 o4 o5 : Option V), σ = [some (.ref p), some (.ref fl), o2, o3, o4, o5] ∧ Same H H' ∧ H fl = none ∧ H' fl = some (.lst (txts done)) ∧ done.length = 3 * i ∧
  seqO os = (seqO (os.drop i)).map fun b => done ++ b
section
variable {P : Program} {w : World} {K : PySem.W.Frag} {mg : Str → Option Value} {base : Heap}
theorem ok_write_diary (T : Txt K mg) (F_is_text : Fnn P w K mg base "is_text" 1 P_is_text (spB K textP)) (F_is_word : Fnn P w K mg base "is_word" 1 P_is_word (spB K wordP)) (F_write_data : FnZ famM P w K mg base "write_data" 3 P_write_data (spWD K (CM K))) :
    FnZ famM P w K mg base "write_diary" 4 P_write_diary (spWDi K (CM K)) := by
  refine mkFnZ T.d_write_diary T.g_write_diary sc_write_diary (fun _ _ _ _ _ _ us hl => match us, hl with | [_], _ => rfl) (fun vs H Q E h => ?_) (fun cdv A outer s H vs Q E hr h => ⟨_, ((pss_cons (ps_if (pt_not (pt_val (pe_callB (kC (K := K) rIsi call_isi rfl) rfl T.f_isinstance boot_isinstance (pa_cons (pv 0) (pa_cons (pe_bltn (v := .ty "list") rfl T.f_list boot_list rfl) pa_nil))))) (pss_one (ps_raiseZ rfl (takes_ofZ rfl rfl rfl rfl) (PMkZ.imp (pmk_msg PySem.F.excBase_ValueError T.x_Malformed T.g_Malformed T.k_Malformed (raises_own T.b_Malformed T.t_Malformed) rfl (pe_S [110, 111, 32, 101, 110, 116, 114, 105, 101, 115] (by decide +kernel))) kZ_mZ))) pss_nil)
      (pss_cons (ps_set (i := 1) sc_write_diary.nd rfl (by first | exact Or.inl rfl | exact Or.inr rfl) (pe_lst pa_nil))
      (pss_cons (ps_for (passes_of rfl) rfl (pi_listK (K := K) (pv 0) rfl) (pg_name (i := 2) sc_write_diary.nd rfl (by first | exact Or.inl rfl | exact Or.inr rfl)) (pss_cons (ps_if (PW.pt (pw_or (pt_not (pt_val (pe_callB (kC (K := K) rIsi call_isi rfl) rfl T.f_isinstance boot_isinstance (pa_cons (pv 2) (pa_cons (pe_bltn (v := .ty "tuple") rfl T.f_tuple boot_tuple rfl) pa_nil))))) (pw_or (pt_cmpR (kOp (K := K) uNe (op_uNe hr) rfl) (pe_callB (kC (K := K) uLen cr_uLen rfl) rfl T.f_len boot_len (pa_cons (pv 2) pa_nil)) pe_int (nomark _)) (pw_or1 (pt_not (pt_val (pe_fn F_is_text (hr.mono (by omega)) rfl pa_0 (pa_cons (pe_ix (kIx (K := K) rIx ix_u rfl) (pv 2) pe_int (fun _ _ => rfl)) pa_nil)))))))) (pss_one (ps_raiseZ rfl (takes_ofZ rfl rfl rfl rfl) (PMkZ.imp (pmk_msg PySem.F.excBase_ValueError T.x_Malformed T.g_Malformed T.k_Malformed (raises_own T.b_Malformed T.t_Malformed) rfl (pe_S [110, 111, 32, 101, 110, 116, 114, 121] (by decide +kernel))) kZ_mZ))) pss_nil)
      (pss_cons (ps_set (i := 3) sc_write_diary.nd rfl (by first | exact Or.inl rfl | exact Or.inr rfl) (pe_ix (kIx (K := K) rIx ix_u rfl) (pv 2) pe_int (fun _ _ => rfl)))
      (pss_cons (ps_if (PW.pt (pw_or (pt_not (pt_val (pe_callB (kC (K := K) rIsi call_isi rfl) rfl T.f_isinstance boot_isinstance (pa_cons (pv 3) (pa_cons (pe_glob (v := .ref _) rfl T.g_Reply rfl) pa_nil))))) (pw_or (pt_not (pt_val (pe_fn F_is_word (hr.mono (by omega)) rfl pa_0 (pa_cons (pe_fldK (K := K) (pv 3) rfl) pa_nil)))) (pw_or1 (pt_not (pt_val (pe_fn F_is_text (hr.mono (by omega)) rfl pa_0 (pa_cons (pe_fldK (K := K) (pv 3) rfl) pa_nil)))))))) (pss_one (ps_raiseZ rfl (takes_ofZ rfl rfl rfl rfl) (PMkZ.imp (pmk_msg PySem.F.excBase_ValueError T.x_Malformed T.g_Malformed T.k_Malformed (raises_own T.b_Malformed T.t_Malformed) rfl (pe_S [110, 111, 32, 114, 101, 112, 108, 121] (by decide +kernel))) kZ_mZ))) pss_nil)
      (pss_cons (ps_if (pt_not (pt_val (pe_callB (kC (K := K) rIsi call_isi rfl) rfl T.f_isinstance boot_isinstance (pa_cons (pe_fldK (K := K) (pv 3) rfl) (pa_cons (pe_bltn (v := .ty "tuple") rfl T.f_tuple boot_tuple rfl) pa_nil))))) (pss_one (ps_raiseZ rfl (takes_ofZ rfl rfl rfl rfl) (PMkZ.imp (pmk_msg PySem.F.excBase_ValueError T.x_Malformed T.g_Malformed T.k_Malformed (raises_own T.b_Malformed T.t_Malformed) rfl (pe_S [110, 111, 32, 100, 97, 116, 97] (by decide +kernel))) kZ_mZ))) pss_nil)
      (pss_cons (ps_set (i := 4) sc_write_diary.nd rfl (by first | exact Or.inl rfl | exact Or.inr rfl) (pe_lst (pa_cons (pe_op (kOp (K := K) uAdd op_uAdd rfl) (pe_S [62, 32] (by decide +kernel)) (pe_ix (kIx (K := K) rIx ix_u rfl) (pv 2) pe_int (fun _ _ => rfl))) (pa_cons (pe_op (kOp (K := K) uAdd op_uAdd rfl) (pe_op (kOp (K := K) uAdd op_uAdd rfl) (pe_op (kOp (K := K) uAdd op_uAdd rfl) (pe_S [61, 32] (by decide +kernel)) (pe_fldK (K := K) (pv 3) rfl)) (pe_S [32] (by decide +kernel))) (pe_fldK (K := K) (pv 3) rfl)) (pa_cons (pe_op (kOp (K := K) uAdd op_uAdd rfl) (pe_S [35, 32] (by decide +kernel)) (pe_fnZ F_write_data (hr.mono (by omega)) rfl (pa_tkZ (takes_ofZ rfl rfl rfl rfl)) (pa_cons (pe_fldK (K := K) (pv 3) rfl) pa_nil))) pa_nil)))))
      (pss_one (ps_expr (pe_bmK (K := K) PySem.F.plainAttrs_list PySem.F.slot_list_extend PySem.F.type_list_extend mt_extend (pv 1) (pa_cons (pe_lc (own := [("line", 5)]) (g := gName 5) (tt := tYes) rfl sc_write_diary.nd (pi_listK (K := K) (pv 4) rfl) (blkOk_by (N := N_write_diary) (sc := defScope s_write_diary) (by decide +kernel)) (fun _ _ _ _ _ => pg_name (i := 5) sc_write_diary.nd rfl (Or.inl rfl)) (fun _ _ _ _ _ => pts_nil) (fun _ _ _ _ _ => (pe_op (kOp (K := K) uAdd op_uAdd rfl) (pv 5) (pe_S [10] (by decide +kernel))))) pa_nil) rfl)))))))))
      (pss_one (ps_ret (pe_joinK (K := K) (pe_S [] (by decide +kernel)) (pv 1) rfl))))))), ?_⟩)
  · obtain ⟨v, rfl, _⟩ := h
    rfl
  · obtain ⟨v, rfl, h⟩ := h
    rw [show start N_write_diary [v] = [some v, none, none, none, none, none] from rfl]
    walk_at "go"
    rcases h with ⟨n, ty, hn, kN⟩ | ⟨p, xs, os, rfl, hp, hA, hlen, kS, kN⟩
    · refine uIsi_ty ty hn ?_
      walk_at "go"
      refine ift rfl ?_
      walk_at "go"
      exact fun t ht => kN _ t _ (by decide) (Same.new ht) upd_eq
    · refine uIsi_ty (tyx_l hp) (b := true) rfl ?_
      walk_at "go"
      refine iff_ rfl ?_
      walk_at "go"
      refine ⟨sz (by simp), fun fl hf => ?_⟩
      walk_at "go"
      refine ⟨p, rfl, ⟨xs, SqL.keep (Same.new hf) hp⟩, ?_⟩
      refine fo_it (walk_list (xs := xs)) (DI K H p fl os) ⟨[], none, none, none, none, rfl, Same.new hf, hf, upd_same, rfl, by simp⟩ (fun i σ H' _ h => ?_) ?_ ?_
      · obtain ⟨done, o2, o3, o4, o5, rfl, s1, _⟩ := h
        exact SqL.keep s1 hp
      · rintro i σ H1 x H2 hi ⟨done, o2, o3, o4, o5, rfl, s1, _, hF1, hd, hm⟩ ⟨rfl, hx⟩
        obtain ⟨o, ho, hE0⟩ := hA.get hx
        have hE := hE0.keep s1
        have hdrop : os.drop i = o :: os.drop (i + 1) := by
          have hlt := (List.getElem?_eq_some_iff.mp ho)
          obtain ⟨h1, h2⟩ := hlt
          rw [List.drop_eq_getElem_cons h1, h2]
        rw [hdrop] at hm
        walk_at "go"
        have bad : o = none → ∀ (m : List Nat), m.length ≤ 100 → ∀ (H' : Hp), Same H H' → ∀ t, H' t = none → E (.ref (CM K)) (some t) (upd H' t (.tup [.str (S m)])) := fun h m hm' H' s t ht => kN (by rw [hm, h]; rfl) _ t _ hm' (s.trans (Same.new ht)) upd_eq
        cases hE with
        | notT ty hn =>
          refine uIsi_ty ty hn ?_
          walk_at "go"
          refine ift rfl ?_
          walk_at "go"
          exact bad rfl _ (by decide) _ s1
        | @len a ys ha hne =>
          refine uIsi_ty (tyx_t ha) (b := true) rfl ?_
          walk_at "go"
          refine iff_ rfl ?_
          walk_at "go"
          refine uLen_t ha ?_
          walk_at "go"
          refine ift (by simp; omega) ?_
          walk_at "go"
          exact bad rfl _ (by decide) _ s1
        | @line a y z d ha hy hl ht =>
          refine uIsi_ty (tyx_t ha) (b := true) rfl ?_
          walk_at "go"
          refine iff_ rfl ?_
          walk_at "go"
          refine uLen_t ha ?_
          walk_at "go"
          refine iff_ rfl ?_
          walk_at "go"
          refine uIx_t ha (v := y) rfl ?_
          walk_at "go"
          refine ⟨y, d, rfl, hy, hl, fun H3 s3 => ?_⟩
          rw [ht]
          walk_at "go"
          refine ift rfl ?_
          walk_at "go"
          exact bad rfl _ (by decide) _ (s1.trans s3)
        | @noR a l y n ha hl hno ty hn =>
          refine uIsi_ty (tyx_t ha) (b := true) rfl ?_
          walk_at "go"
          refine iff_ rfl ?_
          walk_at "go"
          refine uLen_t ha ?_
          walk_at "go"
          refine iff_ rfl ?_
          walk_at "go"
          refine uIx_t ha (v := .str (S l)) rfl ?_
          walk_at "go"
          refine ⟨.str (S l), _, rfl, .str _, Nat.le_of_lt (small (by rw [S_len]; omega)), fun H3 s3 => ?_⟩
          have htp : textP (.str (S l)) = true := by
            show (!decide (10 ∈ l)) = true
            simpa using hno
          rw [htp]
          walk_at "go"
          refine iff_ rfl ?_
          walk_at "go"
          refine uIx_t (SqT.keep s3 ha) (v := y) rfl ?_
          walk_at "go"
          refine uIsi_not T.i_Reply (TyX.keep s3 ty) hn ?_
          walk_at "go"
          refine ift rfl ?_
          walk_at "go"
          exact bad rfl _ (by decide) _ (s1.trans s3)
        | @rep a r l k t v dk dt dv ha hl hno hR hk hkl ht htl hv hvz hwl =>
          refine uIsi_ty (tyx_t ha) (b := true) rfl ?_
          walk_at "go"
          refine iff_ rfl ?_
          walk_at "go"
          refine uLen_t ha ?_
          walk_at "go"
          refine iff_ rfl ?_
          walk_at "go"
          refine uIx_t ha (v := .str (S l)) rfl ?_
          walk_at "go"
          refine ⟨.str (S l), _, rfl, .str _, Nat.le_of_lt (small (by rw [S_len]; omega)), fun H3 s3 => ?_⟩
          have htp : textP (.str (S l)) = true := by
            show (!decide (10 ∈ l)) = true
            simpa using hno
          rw [htp]
          walk_at "go"
          refine iff_ rfl ?_
          walk_at "go"
          refine uIx_t (SqT.keep s3 ha) (v := .ref r) rfl ?_
          walk_at "go"
          obtain ⟨dx, hr3⟩ := hR.keep s3
          refine uIsi_own T.i_Reply T.cl_Reply hr3 ?_
          walk_at "go"
          refine iff_ rfl ?_
          walk_at "go"
          refine fld_at hr3 T.cl_Reply T.na_Reply_kind rp_kind ?_
          walk_at "go"
          refine ⟨k, dk, rfl, Dp.keep s3 hk, hkl.ok, fun H4 s4 => ?_⟩
          have s14 := s1.trans (s3.trans s4)
          cases hwk : wordP dk with
          | false =>
            have on : repTx l dk dt dv = none := by
              unfold repTx
              rw [hwk]
              rfl
            walk_at "go"
            refine ift rfl ?_
            walk_at "go"
            exact bad on _ (by decide) _ s14
          | true =>
          walk_at "go"
          refine iff_ rfl ?_
          walk_at "go"
          have hr4 := s4 _ _ hr3
          refine fld_at hr4 T.cl_Reply T.na_Reply_text rp_text ?_
          walk_at "go"
          refine ⟨t, dt, rfl, Dp.keep (s3.trans s4) ht, htl.ok, fun H5 s5 => ?_⟩
          have s15 := s14.trans s5
          have hr5 := s5 _ _ hr4
          cases hwt : textP dt with
          | false =>
            have on : repTx l dk dt dv = none := by
              unfold repTx
              rw [hwt, Bool.false_and, Bool.and_false]
              rfl
            walk_at "go"
            refine ift rfl ?_
            walk_at "go"
            exact bad on _ (by decide) _ s15
          | true =>
          walk_at "go"
          refine iff_ rfl ?_
          walk_at "go"
          refine fld_at hr5 T.cl_Reply T.na_Reply_data rp_data ?_
          walk_at "go"
          have s35 : Same H2 H5 := s3.trans (s4.trans s5)
          have hv5 := Dp.keep s35 hv
          cases hit : isTup dv with
          | false =>
            have on : repTx l dk dt dv = none := by
              unfold repTx
              rw [hit, Bool.and_false, Bool.and_false]
              rfl
            have hkb : kitB (tyN dv) "tuple" = some false := by
              cases dv <;> first | rfl | exact absurd hit (by simp [isTup])
            refine uIsi_D hv5 hkb ?_
            walk_at "go"
            refine ift rfl ?_
            walk_at "go"
            exact bad on _ (by decide) _ s15
          | true =>
          have hkb : kitB (tyN dv) "tuple" = some true := by
            cases dv <;> first | rfl | exact absurd hit (by simp [isTup])
          refine uIsi_D hv5 hkb ?_
          walk_at "go"
          refine iff_ rfl ?_
          walk_at "go"
          obtain ⟨lk, rfl⟩ : ∃ lk, dk = .str (S lk) := by
            cases dk with
            | str s => exact ⟨s.cps.toList, by rw [S_eq]⟩
            | _ => exact absurd hwk (by simp [wordP])
          obtain ⟨lt, rfl⟩ : ∃ lt, dt = .str (S lt) := by
            cases dt with
            | str s => exact ⟨s.cps.toList, by rw [S_eq]⟩
            | _ => exact absurd hwt (by simp [textP])
          cases hk
          cases ht
          have hkl' : lk.length ≤ 1000000 := by rw [← S_len]; exact hkl
          have htl' : lt.length ≤ 1000000 := by rw [← S_len]; exact htl
          refine uIx_t (SqT.keep s35 ha) (v := .str (S l)) rfl ?_
          walk_at "go"
          refine uAdd_s (Nat.le_of_lt (small (by simp; omega))) ?_
          walk_at "go"
          refine fld_at hr5 T.cl_Reply T.na_Reply_kind rp_kind ?_
          walk_at "go"
          refine uAdd_s (Nat.le_of_lt (small (by simp; omega))) ?_
          walk_at "go"
          refine uAdd_s (Nat.le_of_lt (small (by simp; omega))) ?_
          walk_at "go"
          refine fld_at hr5 T.cl_Reply T.na_Reply_text rp_text ?_
          walk_at "go"
          refine uAdd_s (Nat.le_of_lt (small (by simp; omega))) ?_
          walk_at "go"
          refine fld_at hr5 T.cl_Reply T.na_Reply_data rp_data ?_
          walk_at "go"
          refine ⟨v, dv, rfl, hv5, hvz, fun tx htx => ⟨hwl tx htx, fun H6 s6 => ?_⟩, fun hno' H' t m hm' s' ht' => kN (by rw [hm]; unfold repTx; rw [hwk, hwt, hit, hno']; rfl) H' t m hm' (s15.trans s') ht'⟩
          have htl6 := hwl tx htx
          walk_at "go"
          refine uAdd_s (Nat.le_of_lt (small (by simp; omega))) ?_
          walk_at "go"
          refine ⟨sz (by simp), fun q hq => ?_⟩
          walk_at "go"
          have s16 := s15.trans s6
          have hF6 : H6 fl = some (.lst (txts done)) := (s3.trans (s4.trans (s5.trans s6))) _ _ hF1
          have hqf : q ≠ fl := fun e => by rw [e, hF6] at hq; cases hq
          have hF7 : (upd H6 q (.lst [V.str (S ([62, 32] ++ l)), V.str (S ([61, 32] ++ lk ++ [32] ++ lt)), V.str (S ([35, 32] ++ tx))])) fl = some (.lst (txts done)) := by rw [upd_ne (Ne.symm hqf)]; exact hF6
          generalize hH7 : upd H6 q (HO.lst [V.str (S ([62, 32] ++ l)), V.str (S ([61, 32] ++ lk ++ [32] ++ lt)), V.str (S ([35, 32] ++ tx))]) = H7 at hF7 ⊢
          have hq7 : H7 q = some (.lst (txts [[62, 32] ++ l, [61, 32] ++ lk ++ [32] ++ lt, [35, 32] ++ tx])) := by rw [← hH7]; exact upd_same
          have s17 : Same H H7 := by rw [← hH7]; exact s16.trans (Same.new hq)
          refine ⟨ty_l (sl hF7), ?_⟩
          walk_at "go"
          refine ⟨q, rfl, ⟨_, sl hq7⟩, fun D hD => ?_⟩
          have hDf : fl ≠ D := fun e => by rw [← e, hF7] at hD; cases hD
          have htx3 : repTx l (.str (S lk)) (.str (S lt)) dv = some ([[62, 32] ++ l, [61, 32] ++ lk ++ [32] ++ lt, [35, 32] ++ tx].map fun z => z ++ [10]) := by
            unfold repTx
            rw [hwk, hwt, hit, htx]
            simp [strL]
          generalize hls : [[62, 32] ++ l, [61, 32] ++ lk ++ [32] ++ lt, [35, 32] ++ tx] = ls at hq7 htx3
          have hll : ls.length = 3 := by rw [← hls]; rfl
          have hlz : ∀ z ∈ ls, z.length ≤ 2500000 := by
            rw [← hls]
            intro z hz
            simp only [List.mem_cons, List.not_mem_nil, or_false] at hz
            rcases hz with e | e | e <;> (rw [e]; simp; omega)
          refine lc_it (walk_list (xs := txts ls)) (fun j H' => Same H7 H' ∧ H' D = some (.lst (txts ((ls.take j).map fun z => z ++ [10])))) ⟨Same.new hD, upd_same⟩ (fun j H' _ h => sl (h.1 _ _ hq7)) ?_ ?_
          · rintro j x H8 H9 hj ⟨s8, hv8⟩ ⟨rfl, hx8⟩
            rw [List.getElem?_map] at hx8
            cases hz : ls[j]? with
            | none => rw [hz] at hx8; cases hx8
            | some z =>
              rw [hz] at hx8
              cases hx8
              have hzl := hlz z (List.mem_of_getElem? hz)
              refine ⟨rfl, rd_yes (ift rfl ?_)⟩
              refine rd_st (σ' := [some (V.ref p), some (V.ref fl), some (V.ref a), some (V.ref r), some (V.ref q), some (V.str (S z))]) rfl ?_
              walk_at "go"
              refine uAdd_s (Nat.le_of_lt (small (by simp; omega))) ?_
              have hj3 : j < ls.length := (List.getElem?_eq_some_iff.mp hz).1
              have hz8 : (txts ((ls.take j).map fun z => z ++ [10])).length ≤ 3000000 := by
                simp only [txts, List.length_map, List.length_take]
                rw [hll]
                exact Nat.le_trans (Nat.min_le_right _ _) (by decide)
              refine ⟨_, hv8, small hz8, Same.put s8 hD, ?_⟩
              rw [upd_same, take_succ' hz]
              simp [txts]
          · rintro H8 ⟨s8, hv8⟩
            rw [show (txts ls).length = ls.length by simp, List.take_length] at hv8
            walk_at "go"
            have hF8 := s8 _ _ hF7
            have hil : i < xs.length := (List.getElem?_eq_some_iff.mp hx).1
            refine ext_l hF8 hv8 (by simp only [List.length_map]; exact Nat.le_of_lt (small (by omega))) ?_
            walk_at "go"
            refine ⟨done ++ ls.map (fun z => z ++ [10]), _, _, _, _, rfl, Same.put (s17.trans s8) hf, hf, ?_, by rw [List.length_append, List.length_map]; omega, ?_⟩
            · rw [upd_same]
              simp [txts]
            · rw [hm, htx3, seqO]
              cases seqO (os.drop (i + 1)) <;> simp
      · rintro σ H1 ⟨done, o2, o3, o4, o5, rfl, s1, _, hF1, hd, hm⟩
        rw [List.drop_of_length_le (by rw [hA.len]; exact Nat.le_refl _)] at hm
        have hm' : seqO os = some done := by rw [hm]; simp [seqO]
        obtain ⟨h1, h2⟩ := kS _ hm'
        walk_at "go"
        refine uJoin_l (sl hF1) ?_ ?_
        · rw [← List.length_flatten]
          simp only [List.length_nil, Nat.mul_zero, Nat.add_zero]
          omega
        · rw [joinE]
          exact h2 _ s1
end
inductive PtAt (K : PySem.W.Frag) (H : Hp) : V → DM.Pt → Prop
  | ln (l : List Nat) : l.length ≤ 40000 → PtAt K H (.str (S l)) (.ln l)
  | kt {a : Addr} (k t : List Nat) : H a = some (.tup [.str (S k), .str (S t)]) → k.length ≤ 40000 → t.length ≤ 40000 → PtAt K H (.ref a) (.kt k t)
  | dt {a : Addr} {vs : List V} {ds : List DM.D} : H a = some (.tup vs) → DTs H vs ds → DM.dszs ds ≤ 160004 → PtAt K H (.ref a) (.dt ds)
theorem PtAt.keep {K : PySem.W.Frag} {H H' : Hp} (k : KeepT H H') {v : V} {p : DM.Pt} (h : PtAt K H v p) : PtAt K H' v p := by
  cases h with
  | ln l h => exact .ln l h
  | kt a b h h1 h2 => exact .kt a b (k _ _ h) h1 h2
  | dt h g b => exact .dt (k _ _ h) (g.keep k) b
def spRP (K : PySem.W.Frag) (CF : Addr) : Sp := fun vs H Q E => ∃ (l : List Nat) (k : Nat), vs = [.str (S l), .int (k : Nat)] ∧ k < 3 ∧ l.length ≤ 40000 ∧
  (∀ p, DM.partOf k l = some p → ∀ H' v, Same H H' → PtAt K H' v p → Q v H') ∧ (DM.partOf k l = none → ∀ H', Same H H' → E (.ref CF) none H')
theorem par_len {c : Nat} : ∀ {a acc p q : List Nat}, TL.par [c] acc a = some (p, q) → p.length + q.length ≤ acc.length + a.length
  | [], acc, p, q, h => by cases h
  | d :: r, acc, p, q, h => by
    by_cases hc : d = c
    · subst hc
      rw [TL.par_hit (by simp [TL.pre])] at h
      cases h
      simp
    · rw [TL.par_miss (by simp [TL.pre]; exact fun e => hc e)] at h
      have := par_len h
      simp at this ⊢
      omega
section
variable {P : Program} {w : World} {K : PySem.W.Frag} {mg : Str → Option Value} {base : Heap}
theorem ok_read_part (T : Txt K mg) (F_is_word : Fnn P w K mg base "is_word" 1 P_is_word (spB K wordP)) (F_read_data : FnZ famN P w K mg base "read_data" 4 P_read_data (spRD (K := K) (CM K))) :
    FnZ famN P w K mg base "read_part" 5 P_read_part (spRP K (CM K)) := by
  refine mkFnZ T.d_read_part T.g_read_part sc_read_part (fun _ _ _ _ _ _ us hl => match us, hl with | [_, _], _ => rfl) (fun vs H Q E h => ?_) (fun cdv A outer s H vs Q E hr h => ⟨_, ((pss_cons (ps_if (pt_cmpR (kOp (K := K) uNe (op_uNe hr) rfl) (pe_slice (kSl (K := K) uSl sl_u rfl) (pv 0) po_none (po_some pe_int)) (pe_ix (kIx (K := K) rIx ix_u rfl) (pe_glob (v := .ref _) rfl T.g_MARKS rfl) (pv 1) (fun _ _ => rfl)) (nomark _)) (pss_one (ps_raiseZ rfl (takes_ofZ rfl rfl rfl rfl) (pmk_ownN PySem.F.excBase_ValueError T.x_Malformed T.g_Malformed T.k_Malformed (raises_own T.b_Malformed T.t_Malformed) rfl))) pss_nil)
      (pss_cons (ps_set (i := 2) sc_read_part.nd rfl (by first | exact Or.inl rfl | exact Or.inr rfl) (pe_slice (kSl (K := K) uSl sl_u rfl) (pv 0) (po_some pe_int) po_none))
      (pss_cons (ps_if (pt_cmpR (kOp (K := K) uEq (op_uEq hr) rfl) (pv 1) pe_int (nomark _)) (pss_one (ps_ret (pv 2))) pss_nil)
      (pss_cons (ps_if (pt_cmpR (kOp (K := K) uEq (op_uEq hr) rfl) (pv 1) pe_int (nomark _)) (pss_cons (ps_asg (pe_partU (pv 2) (pe_S [32] (by decide +kernel))) (pg_tupK (K := K) rfl (pgs_cons (pg_name (i := 3) sc_read_part.nd rfl (by first | exact Or.inl rfl | exact Or.inr rfl)) (pgs_cons (pg_name (i := 4) sc_read_part.nd rfl (by first | exact Or.inl rfl | exact Or.inr rfl)) (pgs_cons (pg_name (i := 5) sc_read_part.nd rfl (by first | exact Or.inl rfl | exact Or.inr rfl)) pgs_nil))) rfl))
      (pss_cons (ps_if (PW.pt (pw_or (pt_cmpR (kOp (K := K) uEq (op_uEq hr) rfl) (pv 4) (pe_S [] (by decide +kernel)) (nomark _)) (pw_or1 (pt_not (pt_val (pe_fn F_is_word (hr.mono (by omega)) rfl pa_0 (pa_cons (pv 3) pa_nil))))))) (pss_one (ps_raiseZ rfl (takes_ofZ rfl rfl rfl rfl) (pmk_ownN PySem.F.excBase_ValueError T.x_Malformed T.g_Malformed T.k_Malformed (raises_own T.b_Malformed T.t_Malformed) rfl))) pss_nil)
      (pss_one (ps_ret (pe_tup (pa_cons (pv 3) (pa_cons (pv 5) pa_nil))))))) pss_nil)
      (pss_cons (ps_set (i := 6) sc_read_part.nd rfl (by first | exact Or.inl rfl | exact Or.inr rfl) (pe_fnZ F_read_data (hr.mono (by omega)) rfl (pa_tkZ (takes_ofZ rfl rfl rfl rfl)) (pa_cons (pv 2) pa_nil)))
      (pss_cons (ps_if (pt_not (pt_val (pe_callB (kC (K := K) rIsi call_isi rfl) rfl T.f_isinstance boot_isinstance (pa_cons (pv 6) (pa_cons (pe_bltn (v := .ty "tuple") rfl T.f_tuple boot_tuple rfl) pa_nil))))) (pss_one (ps_raiseZ rfl (takes_ofZ rfl rfl rfl rfl) (pmk_ownN PySem.F.excBase_ValueError T.x_Malformed T.g_Malformed T.k_Malformed (raises_own T.b_Malformed T.t_Malformed) rfl))) pss_nil)
      (pss_one (ps_ret (pv 6)))))))))), ?_⟩)
  · obtain ⟨l, k, rfl, _⟩ := h
    rfl
  · obtain ⟨l, k, rfl, hk, hl, kS, kN⟩ := h
    rw [show start N_read_part [V.str (S l), V.int (k : Nat)] = [some (V.str (S l)), some (V.int (k : Nat)), none, none, none, none, none] from rfl]
    have hz : l.length ≤ sizeLine := Nat.le_of_lt (small (by omega))
    have hdl : (l.drop 2).length ≤ 40000 := by rw [List.length_drop]; omega
    walk_at "go"
    refine uSl_s hz ?_
    rw [show cutL l none (some 2) = l.take 2 from cut_to (i := 2)]
    walk_at "go"
    have hat : atI [V.str (S [62, 32]), .str (S [61, 32]), .str (S [35, 32])] ((k : Nat) : Int) = some (.str (S (DM.mark k))) := by
      match k, hk with
      | 0, _ => rfl
      | 1, _ => rfl
      | 2, _ => rfl
    refine uIx_t (tupB_ok T.m_MARKS _) hat ?_
    walk_at "go"
    refine ifnd (fun hne => ?_) (fun he => ?_)
    · walk_at "go"
      exact kN (by unfold DM.partOf; rw [if_neg hne]) _ (.refl _)
    · walk_at "go"
      refine uSl_s hz ?_
      rw [show cutL l (some 2) none = l.drop 2 from cut_from (i := 2)]
      walk_at "go"
      match k, hk with
      | 0, _ =>
        refine ift rfl ?_
        walk_at "go"
        exact kS _ (by unfold DM.partOf; exact if_pos he) _ _ (.refl _) (.ln _ hdl)
      | 1, _ =>
        refine iff_ rfl ?_
        walk_at "go"
        refine ift rfl ?_
        walk_at "go"
        refine uPart_c (Nat.le_of_lt (small (Nat.le_trans hdl (by decide)))) fun p hp => ?_
        refine rd_gtup (.of upd_same) rfl ?_
        walk_at "go"
        have hpo : DM.partOf 1 l = (match TL.par [32] [] (l.drop 2) with
          | some (kd, tx) => if DM.wordOk kd = true then some (DM.Pt.kt kd tx) else none
          | none => none) := by unfold DM.partOf; exact if_pos he
        cases hpar : TL.par [32] [] (l.drop 2) with
        | none =>
          rw [show (parC 32 (l.drop 2)).2.1 = [] by unfold parC; rw [hpar]]
          refine ift (by simp) ?_
          walk_at "go"
          exact kN (by rw [hpo, hpar]) _ (Same.new hp)
        | some uv =>
          obtain ⟨kd, tx⟩ := uv
          have hkl := par_len hpar
          rw [show (parC 32 (l.drop 2)).2.1 = [32] by unfold parC; rw [hpar], show (parC 32 (l.drop 2)).1 = kd by unfold parC; rw [hpar], show (parC 32 (l.drop 2)).2.2 = tx by unfold parC; rw [hpar]]
          simp only [List.length_nil, Nat.zero_add] at hkl
          refine iff_ (by simp) ?_
          walk_at "go"
          refine ⟨.str (S kd), _, rfl, .str _, Nat.le_of_lt (small (by rw [S_len]; omega)), fun H1 s1 => ?_⟩
          have hw : wordP (.str (S kd)) = DM.wordOk kd := rfl
          rw [hw]
          walk_at "go"
          cases hwk : DM.wordOk kd with
          | false =>
            refine ift rfl ?_
            walk_at "go"
            exact kN (by rw [hpo, hpar]; simp [hwk]) _ ((Same.new hp).trans s1)
          | true =>
            refine iff_ rfl ?_
            walk_at "go"
            refine ⟨sz (by simp), fun q hq => ?_⟩
            exact kS _ (by rw [hpo, hpar]; simp [hwk]) _ _ (((Same.new hp).trans s1).trans (Same.new hq)) (.kt _ _ upd_same (by omega) (by omega))
      | 2, _ =>
        refine iff_ rfl ?_
        walk_at "go"
        refine iff_ rfl ?_
        walk_at "go"
        have hpo : DM.partOf 2 l = (match DM.rd (l.drop 2) with
          | some (.t ds) => some (DM.Pt.dt ds)
          | _ => none) := by unfold DM.partOf; exact if_pos he
        refine ⟨.str (S (l.drop 2)), rfl, .inl ⟨l.drop 2, rfl, (Nat.le_trans hdl (by decide)), fun d hd H1 u s1 hu => ?_, fun hd H1 s1 => kN (by rw [hpo, hd]) _ s1⟩⟩
        walk_at "go"
        cases hu with
        | s v =>
          refine uIsi_D (.str _) (b := false) rfl ?_
          walk_at "go"
          refine ift rfl ?_
          walk_at "go"
          exact kN (by rw [hpo, hd]) _ s1
        | i v =>
          refine uIsi_D (.int _) (b := false) rfl ?_
          walk_at "go"
          refine ift rfl ?_
          walk_at "go"
          exact kN (by rw [hpo, hd]) _ s1
        | t ha hds =>
          refine uIsi_ty (tyx_t (.of ha)) (b := true) rfl ?_
          walk_at "go"
          refine iff_ rfl ?_
          walk_at "go"
          have hsz := DM.rd_sz hd
          rw [DM.dsz] at hsz
          exact kS _ (by rw [hpo, hd]) _ _ s1 (.dt ha hds (by omega))
end
/-- an entry that is read -/
def TrAt (K : PySem.W.Frag) (H : Hp) (v : V) (l k t : List Nat) (ds : List DM.D) : Prop := ∃ (a r d : Addr) (dvs : List V), v = .ref a ∧ H a = some (.tup [.str (S l), .ref r]) ∧ RpAt K H r (.str (S k)) (.str (S t)) (.ref d) ∧ H d = some (.tup dvs) ∧ DTs H dvs ds
theorem TrAt.keep {K : PySem.W.Frag} {H H' : Hp} (e : KeepL H H') {v : V} {l k t : List Nat} {ds : List DM.D} (h : TrAt K H v l k t ds) : TrAt K H' v l k t ds := by
  obtain ⟨a, r, d, dvs, rfl, h1, ⟨dx, h2⟩, h3, h4⟩ := h
  exact ⟨a, r, d, dvs, rfl, e.t _ _ h1, ⟨dx, e _ _ h2 fun _ z => nomatch z⟩, e.t _ _ h3, h4.keep e.t⟩
/-- the triple at j of the parts -/
def Tri (ps : List DM.Pt) (j : Nat) (l k t : List Nat) (ds : List DM.D) : Prop := ps[3 * j]? = some (.ln l) ∧ ps[3 * j + 1]? = some (.kt k t) ∧ DM.wordOk k = true ∧ ps[3 * j + 2]? = some (.dt ds) ∧ l.length ≤ 40000 ∧ k.length ≤ 40000 ∧ t.length ≤ 40000 ∧ DM.dszs ds ≤ 160004
def DrAt (K : PySem.W.Frag) (H : Hp) (p : Addr) (ps : List DM.Pt) : Prop := ∃ xs : List V, H p = some (.lst xs) ∧ ps.length = 3 * xs.length ∧ xs.length ≤ 1000000 ∧ ∀ j v, xs[j]? = some v → ∃ l k t ds, Tri ps j l k t ds ∧ TrAt K H v l k t ds
def rowMsg (n : Nat) : List Nat := [114, 111, 119, 32] ++ U.num (n : Int)
def spRDi (K : PySem.W.Frag) (CF : Addr) : Sp := fun vs H Q E => ∃ v : V, vs = [v] ∧
  ((∃ n, TyX K H v (.type n) ∧ kitB n "str" = some false ∧ ∀ (H' : Hp) (t : Addr), Same H H' → H' t = some (.tup [.str (S [110, 111, 32, 116, 101, 120, 116])]) → E (.ref CF) (some t) H') ∨
   (∃ tx : List Nat, v = .str (S tx) ∧ tx.length ≤ 39990 ∧
     (∀ n, DM.dres (rowsOf tx) = .inl n → ∀ (H' : Hp) (t : Addr), Same H H' → H' t = some (.tup [.str (S (rowMsg n))]) → E (.ref CF) (some t) H') ∧
     (∀ ps, DM.dres (rowsOf tx) = .inr ps → ∀ (H' : Hp) (p : Addr), Same H H' → DrAt K H' p ps → Q (.ref p) H')))
inductive PtAll (K : PySem.W.Frag) (H : Hp) : List V → List DM.Pt → Prop
  | nil : PtAll K H [] []
  | cons {v : V} {vs : List V} {p : DM.Pt} {ps : List DM.Pt} : PtAt K H v p → PtAll K H vs ps → PtAll K H (v :: vs) (p :: ps)
theorem PtAll.len {K : PySem.W.Frag} {H : Hp} : ∀ {vs : List V} {ps : List DM.Pt}, PtAll K H vs ps → vs.length = ps.length
  | _, _, .nil => rfl
  | _, _, .cons _ h => congrArg Nat.succ h.len
theorem PtAll.get {K : PySem.W.Frag} {H : Hp} : ∀ {vs : List V} {ps : List DM.Pt}, PtAll K H vs ps → ∀ {i : Nat} {p : DM.Pt}, ps[i]? = some p → ∃ v, vs[i]? = some v ∧ PtAt K H v p
  | _, _, .nil, i, v, h => by cases i <;> cases h
  | _, _, .cons h _, 0, v, e => by
    cases e
    exact ⟨_, rfl, h⟩
  | _, _, .cons _ h, i + 1, v, e => PtAll.get h (i := i) e
theorem PtAll.snoc {K : PySem.W.Frag} {H : Hp} {v : V} {p : DM.Pt} : ∀ {vs : List V} {ps : List DM.Pt}, PtAll K H vs ps → PtAt K H v p → PtAll K H (vs ++ [v]) (ps ++ [p])
  | _, _, .nil, q => .cons q .nil
  | _, _, .cons h r, q => .cons h (PtAll.snoc r q)
theorem PtAll.keep {K : PySem.W.Frag} {H H' : Hp} (s : KeepT H H') : ∀ {vs : List V} {ps : List DM.Pt}, PtAll K H vs ps → PtAll K H' vs ps
  | _, _, .nil => .nil
  | _, _, .cons h r => .cons (h.keep s) (PtAll.keep s r)
theorem dres_l {rows : List (List Nat)} {n : Nat} (h : DM.scanD 0 rows.dropLast = .inl n) : DM.dres rows = .inl n := by
  unfold DM.dres
  rw [h]
theorem dres_r {rows : List (List Nat)} {ps : List DM.Pt} (h : DM.scanD 0 rows.dropLast = .inr ps) : DM.dres rows = if rows.getLast? = some [] ∧ ps.length % 3 = 0 then .inr ps else .inl rows.length := by
  unfold DM.dres
  rw [h]
theorem num_small {n : Nat} (h : n ≤ 1000000) : ((n : Int)).natAbs.log2 < 1920 := by
  have h1 : ((n : Int)).natAbs = n := by omega
  rw [h1]
  by_cases h0 : n = 0
  · subst h0; decide
  · have h2 : n.log2 ≤ n := by
      have := (Nat.log2_lt h0 (k := n)).mpr Nat.lt_two_pow_self
      omega
    have h3 := (Nat.log2_lt h0 (k := 20)).mpr (by omega)
    omega
theorem num_len {n : Nat} (h : n ≤ 1000000) : (U.num (n : Int)).length ≤ 10 := by
  show (DM.num (n : Int)).length ≤ 10
  rw [DM.num_nat]
  exact DM.digs_len_le 10 n (by decide) (by omega)
/-- the loop over the rows -/
def RI (K : PySem.W.Frag) (H : Hp) (tx : List Nat) (lp pl : Addr) (i : Nat) (σ : L2.St) (H' : Hp) : Prop := ∃ (vs : List V) (ps : List DM.Pt) (o3 o4 : Option V), σ = [some (.str (S tx)), some (.ref lp), some (.ref pl), o3, o4] ∧ Same H H' ∧ H lp = none ∧ H pl = none ∧ lp ≠ pl ∧
  H' lp = some (.lst (txts (rowsOf tx))) ∧ H' pl = some (.lst vs) ∧ PtAll K H' vs ps ∧ ps.length = i ∧ DM.Kin ps ∧ DM.scanD 0 (rowsOf tx).dropLast = DM.addP ps (DM.scanD i ((rowsOf tx).dropLast.drop i))
section
variable {P : Program} {w : World} {K : PySem.W.Frag} {mg : Str → Option Value} {base : Heap}
theorem ok_read_diary (T : Txt K mg) (look : PySem.W.nsIn K cStatics digName = some none) (F_read_part : FnZ famN P w K mg base "read_part" 5 P_read_part (spRP K (CM K)))
    (F_Reply___init__ : Fnd P w K mg base (CP K) "__init__" 1 P_Reply___init__ (rpD K) (spRInit K)) :
    FnZ famM P w K mg base "read_diary" 6 P_read_diary (spRDi K (CM K)) := by
  refine mkFnZ T.d_read_diary T.g_read_diary sc_read_diary (fun _ _ _ _ _ _ us hl => match us, hl with | [_], _ => rfl) (fun vs H Q E h => ?_) (fun cdv A outer s H vs Q E hr h => ⟨_, ((pss_cons (ps_if (pt_not (pt_val (pe_callB (kC (K := K) rIsi call_isi rfl) rfl T.f_isinstance boot_isinstance (pa_cons (pv 0) (pa_cons (pe_bltn (v := .ty "str") rfl T.f_str boot_str rfl) pa_nil))))) (pss_one (ps_raiseZ rfl (takes_ofZ rfl rfl rfl rfl) (PMkZ.imp (pmk_msg PySem.F.excBase_ValueError T.x_Malformed T.g_Malformed T.k_Malformed (raises_own T.b_Malformed T.t_Malformed) rfl (pe_S [110, 111, 32, 116, 101, 120, 116] (by decide +kernel))) kZ_mZ))) pss_nil)
      (pss_cons (ps_set (i := 1) sc_read_diary.nd rfl (by first | exact Or.inl rfl | exact Or.inr rfl) (pe_splitU (pv 0) (pe_S [10] (by decide +kernel))))
      (pss_cons (ps_set (i := 2) sc_read_diary.nd rfl (by first | exact Or.inl rfl | exact Or.inr rfl) (pe_lst pa_nil))
      (pss_cons (ps_for (passes_of rfl) rfl (pi_range1 rfl T.f_range (pa_cons (pe_op op_uSub (pe_callB (kC (K := K) uLen cr_uLen rfl) rfl T.f_len boot_len (pa_cons (pv 1) pa_nil)) pe_int) pa_nil)) (pg_name (i := 3) sc_read_diary.nd rfl (by first | exact Or.inl rfl | exact Or.inr rfl)) (pss_one (ps_takeXK (K := K) (F := famN) (tb := _) (ts := fun a cls d => _) rfl rfl ⟨rfl, by decide, Or.inl T.g_Malformed⟩ (L2H.passesAt_of rfl) (takes_ofZ rfl rfl rfl rfl) (fun _ _ _ h => h.2.2) (fun W pn xe tk _ => (pss_one (ps_expr (pe_bmK (K := K) PySem.F.plainAttrs_list PySem.F.slot_list_append PySem.F.type_list_append mt_append (pv 2) (pa_cons (pe_fnZ F_read_part (hr.mono (by omega)) rfl (pa_tkZ tk) (pa_cons (pe_ix (kIx (K := K) rIx ix_u rfl) (pv 1) (pv 3) (fun _ _ => rfl)) (pa_cons (pe_op op_uMod (pv 3) pe_int) pa_nil))) pa_nil) rfl)))) (fun a oe cls d pn hz hf tkS hot => (pss_one (ps_raiseHM hot tkS (PMkZ.imp (pmk_msg PySem.F.excBase_ValueError T.x_Malformed T.g_Malformed T.k_Malformed (raises_own T.b_Malformed T.t_Malformed) rfl (pe_op (kOp (K := K) uAdd op_uAdd rfl) (pe_S [114, 111, 119, 32] (by decide +kernel)) (pe_callTy cr_uStrS rfl T.f_str boot_str (pa_cons (pe_op (kOp (K := K) uAdd op_uAdd rfl) (pv 3) pe_int) pa_nil)))) kZ_mZ)))) rfl)))
      (pss_cons (ps_if (PW.pt (pw_or (pt_cmpR (kOp (K := K) uNe (op_uNe hr) rfl) (pe_ix (kIx (K := K) rIx ix_u rfl) (pv 1) (pe_un un_uNeg pe_int) (fun _ _ => rfl)) (pe_S [] (by decide +kernel)) (nomark _)) (pw_or1 (pt_cmpR (kOp (K := K) uNe (op_uNe hr) rfl) (pe_op op_uMod (pe_callB (kC (K := K) uLen cr_uLen rfl) rfl T.f_len boot_len (pa_cons (pv 2) pa_nil)) pe_int) pe_int (nomark _))))) (pss_one (ps_raiseZ rfl (takes_ofZ rfl rfl rfl rfl) (PMkZ.imp (pmk_msg PySem.F.excBase_ValueError T.x_Malformed T.g_Malformed T.k_Malformed (raises_own T.b_Malformed T.t_Malformed) rfl (pe_op (kOp (K := K) uAdd op_uAdd rfl) (pe_S [114, 111, 119, 32] (by decide +kernel)) (pe_callTy (cr_uStr rfl look) rfl T.f_str boot_str (pa_cons (pe_op (kOp (K := K) uAdd op_uAdd rfl) (pe_callB (kC (K := K) uLen cr_uLen rfl) rfl T.f_len boot_len (pa_cons (pv 2) pa_nil)) pe_int) pa_nil)))) kZ_mZ))) pss_nil)
      (pss_one (ps_ret (pe_lc (own := [("t", 4)]) (g := gName 4) (tt := tYes) rfl sc_read_diary.nd (pi_range3 rfl T.f_range (pa_cons pe_int (pa_cons (pe_callB (kC (K := K) uLen cr_uLen rfl) rfl T.f_len boot_len (pa_cons (pv 2) pa_nil)) (pa_cons pe_int pa_nil)))) (blkOk_by (N := N_read_diary) (sc := defScope s_read_diary) (by decide +kernel)) (fun _ _ _ _ _ => pg_name (i := 4) sc_read_diary.nd rfl (Or.inl rfl)) (fun _ _ _ _ _ => pts_nil) (fun _ _ _ _ _ => (pe_tup (pa_cons (pe_ix (kIx (K := K) rIx ix_u rfl) (pv 2) (pv 4) (fun _ _ => rfl)) (pa_cons (pe_mkD 2 T.mk_Reply F_Reply___init__ (Nat.le_of_ble_eq_true rfl) (hr.mono (by omega)) rfl T.g_Reply (pa_cons (pe_ix (kIx (K := K) rIx ix_u rfl) (pe_ix (kIx (K := K) rIx ix_u rfl) (pv 2) (pe_op (kOp (K := K) uAdd op_uAdd rfl) (pv 4) pe_int) (fun _ _ => rfl)) pe_int (fun _ _ => rfl)) (pa_cons (pe_ix (kIx (K := K) rIx ix_u rfl) (pe_ix (kIx (K := K) rIx ix_u rfl) (pv 2) (pe_op (kOp (K := K) uAdd op_uAdd rfl) (pv 4) pe_int) (fun _ _ => rfl)) pe_int (fun _ _ => rfl)) (pa_cons (pe_ix (kIx (K := K) rIx ix_u rfl) (pv 2) (pe_op (kOp (K := K) uAdd op_uAdd rfl) (pv 4) pe_int) (fun _ _ => rfl)) pa_nil)))) pa_nil))))))))))))), ?_⟩)
  · obtain ⟨v, rfl, _⟩ := h
    rfl
  · obtain ⟨v, rfl, h⟩ := h
    rw [show start N_read_diary [v] = [some v, none, none, none, none] from rfl]
    walk_at "go"
    rcases h with ⟨n, ty, hn, kN⟩ | ⟨tx, rfl, hz, kN, kS⟩
    · refine uIsi_ty ty hn ?_
      walk_at "go"
      refine ift rfl ?_
      walk_at "go"
      exact fun t ht => kN _ t (Same.new ht) upd_eq
    · refine uIsi_D (.str _) (b := true) rfl ?_
      walk_at "go"
      refine iff_ rfl ?_
      walk_at "go"
      have hrl : (TL.spl [10] 0 [] tx).length ≤ tx.length + 1 := rows_len tx
      have hrn := rows_ne tx
      have hrp : 1 ≤ (TL.spl [10] 0 [] tx).length := List.length_pos_iff.mpr hrn
      refine uSplit_c (by decide) (Nat.le_of_lt (small (by omega))) fun lp hlp => ?_
      walk_at "go"
      refine ⟨sz (by simp), fun pl hpl => ?_⟩
      have hne : lp ≠ pl := fun e => by rw [e, upd_same] at hpl; cases hpl
      have hpn : H pl = none := by rw [upd_ne (Ne.symm hne)] at hpl; exact hpl
      walk_at "go"
      refine uLen_l (sl (by rw [upd_ne hne, upd_same])) ?_
      walk_at "go"
      rw [List.length_map]
      refine ⟨_, rfl, by omega, by omega, ?_⟩
      have hdl : (rowsOf tx).dropLast.length = (rowsOf tx).length - 1 := List.length_dropLast
      rw [show (((rowsOf tx).length : Int) - 1).toNat = (rowsOf tx).dropLast.length by rw [hdl]; omega]
      refine fo_it walk_range (RI K H tx lp pl) ⟨[], [], none, none, rfl, Same.put (Same.new hlp) hpn, hlp, hpn, hne, by rw [upd_ne hne, upd_same], upd_same, .nil, rfl, DM.Kin.nil, by rw [DM.addP_nil]; rfl⟩ (fun _ _ _ _ _ => True.intro) ?_ ?_
      · rintro i x σ H1 H2 hi ⟨vs, ps, o3, o4, rfl, s1, _, _, _, hL1, hP1, hA1, hpl1, hK1, hm⟩ ⟨rfl, rfl⟩
        have hil : i < (rowsOf tx).dropLast.length := hi
        obtain ⟨row, hrow⟩ : ∃ row, (rowsOf tx).dropLast[i]? = some row := ⟨_, List.getElem?_eq_getElem hil⟩
        have hrow' : (rowsOf tx)[i]? = some row := by
          rw [List.getElem?_dropLast] at hrow
          split at hrow
          · exact hrow
          · cases hrow
        rw [DM.scan_step hrow] at hm
        have hrl2 := row_len (List.mem_of_getElem? hrow')
        have hrl' : (rowsOf tx).length ≤ tx.length + 1 := hrl
        have hi2 : i ≤ 1000000 := by
          rw [hdl] at hil
          omega
        have hvl := hA1.len
        walk_at "go"
        refine rd_try ?_
        walk_at "go"
        refine ⟨ty_l (sl hP1), ?_⟩
        walk_at "go"
        refine uIx_l (v := .str (S row)) (sl hL1) (by rw [Int.zero_add]; exact atI_nat (by rw [List.getElem?_map, hrow']; rfl)) ?_
        walk_at "go"
        refine uMod_i (by decide) ?_
        walk_at "go"
        rw [show ((0 : Int) + (i : Int)) % 3 = ((i % 3 : Nat) : Int) by omega]
        refine ⟨row, i % 3, rfl, Nat.mod_lt _ (by decide), by omega, fun p hp H3 v s3 hv => ?_, fun hn H3 s3 => ?_⟩
        · walk_at "go"
          have hP3 := s3 _ _ hP1
          refine ap_l hP3 (small (by omega)) ?_
          walk_at "go"
          refine ⟨vs ++ [v], ps ++ [p], _, _, rfl, Same.put (s1.trans s3) hpn, hlp, hpn, hne, ?_, upd_same, PtAll.snoc (PtAll.keep ((KeepT.of s3).trans (KeepT.lst hP3)) hA1) (hv.keep (KeepT.lst hP3)), by rw [List.length_append, hpl1]; rfl, hK1.snoc (r := row) (by rw [hpl1]; exact hp), ?_⟩
          · rw [upd_ne hne]
            exact s3 _ _ hL1
          · rw [hm, hp, DM.addP_addP]
        · refine ⟨T.e_Malformed, fun a ha => ?_⟩
          show tMsg _ _ _ _ _
          unfold tMsg
          walk_at "go"
          rw [show ((0 : Int) + (i : Int)) + 1 = ((i + 1 : Nat) : Int) by omega]
          refine uStrS_i (num_small (by omega)) ?_
          have hnl := num_len (n := i + 1) (by omega)
          walk_at "go"
          refine uAdd_s (Nat.le_of_lt (small (by simp only [List.length_cons, List.length_nil]; omega))) ?_
          refine fun t ht => kN (i + 1) (dres_l (by rw [hm, hn]; rfl)) _ t ((s1.trans s3).trans (Same.new ht)) upd_eq
      · rintro σ H1 ⟨vs, ps, o3, o4, rfl, s1, _, _, _, hL1, hP1, hA1, hpl1, hK1, hm⟩
        rw [List.drop_of_length_le (Nat.le_refl _)] at hm
        have hm' : DM.scanD 0 (rowsOf tx).dropLast = .inr ps := by rw [hm]; simp [DM.scanD, DM.addP]
        have hvl := hA1.len
        obtain ⟨last, hlast⟩ : ∃ last, rowsOf tx = (rowsOf tx).dropLast ++ [last] := ⟨_, (List.dropLast_concat_getLast hrn).symm⟩
        have hgl : (rowsOf tx).getLast? = some last := by rw [hlast]; exact List.getLast?_concat
        have hd := dres_r hm'
        rw [hgl] at hd
        walk_at "go"
        refine uIx_l (v := .str (S (last))) (sl hL1) ?_ ?_
        · rw [hlast]
          simp only [txts, List.map_append]
          exact atI_last _ _
        walk_at "go"
        have hbad : ¬ (last = [] ∧ ps.length % 3 = 0) → ∀ t, H1 t = none → E (.ref (CM K)) (some t) (upd H1 t (.tup [.str (S ([114, 111, 119, 32] ++ U.num ((ps.length + 1 : Nat) : Int)))])) := fun hn t ht => by
          refine kN (ps.length + 1) ?_ _ t (s1.trans (Same.new ht)) upd_eq
          rw [hd, if_neg (fun z => hn ⟨Option.some.inj z.1, z.2⟩), hpl1, hdl]
          have hrp' : 1 ≤ (rowsOf tx).length := hrp
          congr 1
          omega
        have hrl' : (rowsOf tx).length ≤ tx.length + 1 := hrl
        have hpz : ps.length ≤ 1000000 := by omega
        have raise : ¬ (last = [] ∧ ps.length % 3 = 0) → ∀ {σ' : L2.St}, σ' = [some (V.str (S tx)), some (V.ref lp), some (V.ref pl), o3, o4] →
            tMsg (CM K) (tOp (uAdd K) (tC (V.str (S [114, 111, 119, 32]))) (tCB uStr (tCons (tOp (uAdd K) (tCB (uLen K) (tCons (tVar 2) tNil)) (tC (V.int 1))) tNil))) σ' H1 fun cls d H' => E cls d H' := by
          rintro hn σ' rfl
          unfold tMsg
          walk_at "go"
          refine uLen_l (sl hP1) ?_
          walk_at "go"
          rw [show ((vs.length : Int) + 1) = ((ps.length + 1 : Nat) : Int) by omega]
          have hnl := num_len (n := ps.length + 1) (by omega)
          refine uStr_i (Nat.lt_of_le_of_lt (m := 10 ^ 7) (by omega) (Nat.pow_lt_pow_right (by decide) (by decide))) ?_
          walk_at "go"
          refine uAdd_s (Nat.le_of_lt (small (by simp only [List.length_cons, List.length_nil]; omega))) ?_
          exact hbad hn
        refine ifnd (fun hne' => ?_) (fun he => ?_)
        · walk_at "go"
          refine ift rfl ?_
          exact raise (fun z => hne' z.1) rfl
        · walk_at "go"
          refine uLen_l (sl hP1) ?_
          walk_at "go"
          refine uMod_i (by decide) ?_
          walk_at "go"
          refine ifnd (fun h3 => ?_) (fun h3 => ?_)
          · walk_at "go"
            exact raise (fun z => h3 (by omega)) rfl
          · obtain ⟨m, hm3⟩ : ∃ m, ps.length = 3 * m := ⟨ps.length / 3, by omega⟩
            have hd' : DM.dres (rowsOf tx) = .inr ps := by rw [hd, if_pos ⟨congrArg some he, by omega⟩]
            walk_at "go"
            refine rd_rng3 ?_
            walk_at "go"
            refine uLen_l (sl hP1) ?_
            walk_at "go"
            rw [show ((vs.length : Int)) = ((3 * m : Nat) : Int) by omega]
            refine ⟨_, _, _, _, rfl, rgC3 (by omega), fun D hD => ?_⟩
            have hDp : pl ≠ D := fun e => by rw [← e, hP1] at hD; cases hD
            refine lc_it walk_rangeC (fun q H' => ∃ xs : List V, xs.length = q ∧ H' D = some (.lst xs) ∧ Same H1 H' ∧ ∀ (j : Nat) (v : V), xs[j]? = some v → ∃ l k t ds, Tri ps j l k t ds ∧ TrAt K H' v l k t ds) ⟨[], rfl, upd_same, Same.new hD, fun j v h => by cases j <;> cases h⟩ (fun _ _ _ _ => True.intro) ?_ ?_
            · rintro q x H2 H3 hq ⟨xs, hxl, hx2, s2, hx⟩ ⟨rfl, rfl⟩
              obtain ⟨l, k, ty, ds, e0, e1, hw, e2⟩ := hK1.tri (t := q) (by omega)
              obtain ⟨v0, g0, p0⟩ := hA1.get e0
              obtain ⟨v1, g1, p1⟩ := hA1.get e1
              obtain ⟨v2, g2, p2⟩ := hA1.get e2
              cases p0 with
              | ln _ hl0 =>
              cases p1 with
              | @kt a1 _ _ ha1 hk1 ht1 =>
              cases p2 with
              | @dt a2 ws _ ha2 hds hdz =>
              have hP2 := s2 _ _ hP1
              refine ⟨rfl, rd_yes (ift rfl ?_)⟩
              refine rd_st (σ' := [some (.str (S tx)), some (.ref lp), some (.ref pl), o3, some (.int (0 + (q : Nat) * 3))]) rfl ?_
              walk_at "go"
              refine uIx_l (v := .str (S l)) (sl hP2) (by rw [show (0 : Int) + (q : Nat) * 3 = ((3 * q : Nat) : Int) by omega]; exact atI_nat g0) ?_
              walk_at "go"
              refine rd_mkD ?_
              walk_at "go"
              refine uIx_l (v := .ref a1) (sl hP2) (by rw [show (0 : Int) + (q : Nat) * 3 + 1 = ((3 * q + 1 : Nat) : Int) by omega]; exact atI_nat g1) ?_
              walk_at "go"
              refine uIx_t (.of (s2 _ _ ha1)) (v := .str (S k)) rfl ?_
              walk_at "go"
              refine uIx_l (v := .ref a1) (sl hP2) (by rw [show (0 : Int) + (q : Nat) * 3 + 1 = ((3 * q + 1 : Nat) : Int) by omega]; exact atI_nat g1) ?_
              walk_at "go"
              refine uIx_t (.of (s2 _ _ ha1)) (v := .str (S ty)) rfl ?_
              walk_at "go"
              refine uIx_l (v := .ref a2) (sl hP2) (by rw [show (0 : Int) + (q : Nat) * 3 + 2 = ((3 * q + 2 : Nat) : Int) by omega]; exact atI_nat g2) ?_
              walk_at "go"
              intro r dx hr0 hdx hne2
              have nr : H3 r = none := hr0
              have sr : Same H3 (upd (upd H3 dx (.own r)) r (.ins (CP K) dx (rpF (.str (S k)) (.str (S ty)) (.ref a2)))) := (Same.new hdx).trans (Same.new (by rw [upd_ne (Ne.symm hne2)]; exact hr0))
              refine ⟨r, dx, .str (S k), .str (S ty), .ref a2, rfl, upd_same, rfl, ?_⟩
              rw [upd_upd]
              walk_at "go"
              refine ⟨sz (by simp), fun p hp => ?_⟩
              have s3 := sr.trans (Same.new (o := .tup [.str (S l), .ref r]) hp)
              have hrp3 : r ≠ p := fun e => by rw [← e, upd_same] at hp; cases hp
              have hx3 := s3 _ _ hx2
              refine ⟨xs, hx3, small (by omega), xs ++ [.ref p], by rw [List.length_append, hxl]; rfl, upd_same, Same.put (s2.trans s3) hD, fun j v hv => ?_⟩
              have kl0 := KeepL.lst (o := .lst (xs ++ [.ref p])) hx3
              have kl := (KeepL.of s3).trans kl0
              by_cases hj : j < xs.length
              · rw [List.getElem?_append_left hj] at hv
                obtain ⟨l', k', t', ds', h1, h2⟩ := hx j v hv
                exact ⟨l', k', t', ds', h1, h2.keep kl⟩
              · rw [List.getElem?_append_right (by omega)] at hv
                have hjq : j = q := by
                  have := (List.getElem?_eq_some_iff.mp hv).1
                  simp at this
                  omega
                subst hjq
                rw [hxl, Nat.sub_self] at hv
                cases hv
                have k0 := (KeepT.of s2).trans kl.t
                refine ⟨l, k, ty, ds, ⟨e0, e1, hw, e2, hl0, hk1, ht1, hdz⟩, p, r, a2, ws, rfl, ?_, ⟨dx, ?_⟩, k0 _ _ ha2, hds.keep k0⟩
                · exact kl0 _ _ upd_same fun _ z => nomatch z
                · exact kl0 _ _ (by rw [upd_ne hrp3, upd_same]) fun _ z => nomatch z
            · rintro H2 ⟨xs, hxl, hx2, s2, hx⟩
              exact kS ps hd' _ D (s1.trans s2) ⟨xs, hx2, by omega, by omega, hx⟩
end
/-- the law's draw: the cells, the place, the rest of a cell, the seed -/
def DrawAt (H : Hp) (cl d : Addr) : Prop := ∃ (i c m : Int) (ns : List Int), H d = some (.lst [.ref cl, .int i, .int c, .int m]) ∧ H cl = some (.lst (ns.map V.int)) ∧ cl ≠ d ∧ -1 ≤ i ∧ ns.length ≤ 1000000
theorem DrawAt.keep {H H' : Hp} {cl d : Addr} (s : Same H H') : DrawAt H cl d → DrawAt H' cl d := fun ⟨i, c, m, ns, h1, h2, r⟩ => ⟨i, c, m, ns, s _ _ h1, s _ _ h2, r⟩
/-- all but d stands -/
def But (d : Addr) (H H' : Hp) : Prop := ∀ b o, H b = some o → b ≠ d → H' b = some o
theorem But.refl {d : Addr} {H : Hp} : But d H H := fun _ _ h _ => h
theorem But.trans {d : Addr} {H H1 H2 : Hp} (a : But d H H1) (b : But d H1 H2) : But d H H2 := fun x o h n => b x o (a x o h n) n
theorem But.of {d : Addr} {H H' : Hp} (s : Same H H') : But d H H' := fun b o h _ => s b o h
theorem But.put {d : Addr} {H : Hp} {o : HO} : But d H (upd H d o) := fun b u h n => by rw [upd_ne n]; exact h
def spDraw (K : PySem.W.Frag) : Sp := fun vs H Q _ => ∃ (a : Addr) (ns : List Int), vs = [.ref a] ∧ SqL K H a (ns.map V.int) ∧ ns.length ≤ 1000000 ∧ ∀ H' cl d, Same H H' → H d = none → DrawAt H' cl d → Q (.ref d) H'
def spTake : Sp := fun vs H Q _ => ∃ (cl d : Addr) (many : Int), vs = [.ref d, .int many] ∧ DrawAt H cl d ∧ 0 < many ∧ many < 1000000000 ∧ ∀ H' r, But d H H' → DrawAt H' cl d → 0 ≤ r → r < many → Q (.int r) H'
section
variable {P : Program} {w : World} {K : PySem.W.Frag} {mg : Str → Option Value} {base : Heap}
theorem ok__law_draw (T : Txt K mg) (look : PySem.W.nsIn K cStatics digName = some none) : Fnn P w K mg base "_law_draw" 1 P__law_draw (spDraw K) := by
  refine mkFnn T.d__law_draw T.g__law_draw sc__law_draw (fun _ _ _ _ _ _ us hl => match us, hl with | [_], _ => rfl) (fun vs H Q E h => ?_) (fun cdv A outer s H vs Q E hr h => ⟨_, ((pss_cons (ps_set (i := 1) sc__law_draw.nd rfl (by first | exact Or.inl rfl | exact Or.inr rfl) pe_int)
      (pss_cons (ps_for (passes_of rfl) rfl (pi_listK (K := K) (pv 0) rfl) (pg_name (i := 2) sc__law_draw.nd rfl (by first | exact Or.inl rfl | exact Or.inr rfl)) (pss_one (ps_set (i := 1) sc__law_draw.nd rfl (by first | exact Or.inl rfl | exact Or.inr rfl) (pe_op op_uMod (pe_callTy (cr_uInt look) rfl T.f_int boot_int (pa_cons (pe_op (kOp (K := K) uAdd op_uAdd rfl) (pe_op (kOp (K := K) uAdd op_uAdd rfl) (pe_op op_uMul (pv 1) pe_int) (pe_op op_uMod (pe_callB cr_uAbs rfl T.f_abs boot_abs (pa_cons (pe_callTy (cr_uInt look) rfl T.f_int boot_int (pa_cons (pv 2) pa_nil)) pa_nil)) pe_int)) pe_int) pa_nil)) pe_int))))
      (pss_one (ps_ret (pe_lst (pa_cons (pe_lc (own := [("cell", 2)]) (g := gName 2) (tt := tYes) rfl sc__law_draw.nd (pi_listK (K := K) (pv 0) rfl) (blkOk_by (N := N__law_draw) (sc := defScope s__law_draw) (by decide +kernel)) (fun _ _ _ _ _ => pg_name (i := 2) sc__law_draw.nd rfl (Or.inl rfl)) (fun _ _ _ _ _ => pts_nil) (fun _ _ _ _ _ => (pe_callB cr_uAbs rfl T.f_abs boot_abs (pa_cons (pe_callTy (cr_uInt look) rfl T.f_int boot_int (pa_cons (pv 2) pa_nil)) pa_nil)))) (pa_cons (pe_un un_uNeg pe_int) (pa_cons pe_int (pa_cons (pv 1) pa_nil)))))))))), ?_⟩)
  · obtain ⟨a, ns, rfl, _⟩ := h
    rfl
  · obtain ⟨a, ns, rfl, hS, hl, k⟩ := h
    rw [show start N__law_draw [V.ref a] = [some (V.ref a), none, none] from rfl]
    walk_at "go"
    refine ⟨a, rfl, ⟨_, hS⟩, ?_⟩
    refine fo_it (walk_list (xs := ns.map V.int)) (fun i σ H' => H' = H ∧ ∃ (m : Int) (o : Option V), σ = [some (.ref a), some (.int m), o]) ⟨rfl, 7, none, rfl⟩ (fun i σ H' _ h => by rw [h.1]; exact hS) ?_ ?_
    · rintro i x σ H1 H2 hi ⟨rfl, m, o, rfl⟩ ⟨rfl, hx⟩
      rw [List.getElem?_map] at hx
      obtain ⟨z, rfl⟩ : ∃ z, x = V.int z := by
        cases e : ns[i]? with
        | none => rw [e] at hx; cases hx
        | some z => rw [e] at hx; exact ⟨z, (Option.some.inj hx).symm⟩
      walk_at "go"
      refine uMul_i (by decide) ?_
      walk_at "go"
      refine uAbs_i fun j hj => ?_
      walk_at "go"
      refine uMod_i (by decide) ?_
      walk_at "go"
      refine uMod_i (by decide) ?_
      walk_at "go"
      exact ⟨rfl, _, _, rfl⟩
    · rintro σ H1 ⟨rfl, m, o, rfl⟩
      walk_at "go"
      refine ⟨a, rfl, ⟨_, hS⟩, fun D hD => ?_⟩
      refine lc_it (walk_list (xs := ns.map V.int)) (fun i H' => ∃ zs : List Int, zs.length = i ∧ H' = upd H1 D (.lst (zs.map V.int))) ⟨[], rfl, rfl⟩ (fun i H' _ ⟨zs, _, e⟩ => by rw [e]; exact (Same.new hD).seq hS) ?_ ?_
      · rintro i x H2 H3 hi ⟨zs, hz, rfl⟩ ⟨rfl, hx⟩
        rw [List.getElem?_map] at hx
        obtain ⟨z, rfl⟩ : ∃ z, x = V.int z := by
          cases e : ns[i]? with
          | none => rw [e] at hx; cases hx
          | some z => rw [e] at hx; exact ⟨z, (Option.some.inj hx).symm⟩
        refine ⟨rfl, rd_yes (ift rfl ?_)⟩
        refine rd_st (σ' := [some (.ref a), some (.int m), some (.int z)]) rfl ?_
        walk_at "go"
        refine uAbs_i fun j hj => ?_
        have hi' : i < ns.length := by
          have := hi
          rw [List.length_map] at this
          exact this
        refine ⟨_, upd_same, by rw [List.length_map]; exact small (by omega), zs ++ [j], by simp [hz], ?_⟩
        rw [upd_upd, List.map_append]
        rfl
      · rintro H2 ⟨zs, hz, rfl⟩
        walk_at "go"
        refine ⟨sz (by simp), fun d hd => ?_⟩
        have hDd : D ≠ d := fun e => by rw [e, upd_same] at hd; cases hd
        have hz2 : zs.length = ns.length := by rw [hz, List.length_map]
        refine k _ D d ((Same.new hD).trans (Same.new hd)) ((Same.new hD).free hd) ⟨_, _, _, zs, upd_same, ?_, hDd, by decide, by omega⟩
        rw [upd_ne hDd, upd_same]
theorem ixN_lit {n : Nat} {k : Nat} (h : k < n) : ixN n ((k : Nat) : Int) = some k := by
  unfold ixN
  rw [if_pos (by omega), if_pos (by omega)]
  simp
theorem ok__law_take (T : Txt K mg) (look : PySem.W.nsIn K cStatics digName = some none) : Fnn P w K mg base "_law_take" 1 P__law_take spTake := by
  refine mkFnn T.d__law_take T.g__law_take sc__law_take (fun _ _ _ _ _ _ us hl => match us, hl with | [_, _], _ => rfl) (fun vs H Q E h => ?_) (fun cdv A outer s H vs Q E hr h => ⟨_, ((pss_cons (ps_if (pt_cmpR (kOp (K := K) uEq (op_uEq hr) rfl) (pe_ix (kIx (K := K) rIx ix_u rfl) (pv 0) pe_int (fun _ _ => rfl)) pe_int (nomark _)) (pss_cons (ps_asg (pe_op (kOp (K := K) uAdd op_uAdd rfl) (pe_ix (kIx (K := K) rIx ix_u rfl) (pv 0) pe_int (fun _ _ => rfl)) pe_int) (pg_sub (pv 0) pe_int set_list))
      (pss_cons (ps_if (pt_cmpR op_uLt (pe_ix (kIx (K := K) rIx ix_u rfl) (pv 0) pe_int (fun _ _ => rfl)) (pe_callB (kC (K := K) uLen cr_uLen rfl) rfl T.f_len boot_len (pa_cons (pe_ix (kIx (K := K) rIx ix_u rfl) (pv 0) pe_int (fun _ _ => rfl)) pa_nil)) (nomark _)) (pss_one (ps_asg (pe_ix (kIx (K := K) rIx ix_u rfl) (pe_ix (kIx (K := K) rIx ix_u rfl) (pv 0) pe_int (fun _ _ => rfl)) (pe_ix (kIx (K := K) rIx ix_u rfl) (pv 0) pe_int (fun _ _ => rfl)) (fun _ _ => rfl)) (pg_sub (pv 0) pe_int set_list))) pss_nil)
      (pss_one (ps_if (pt_cmpR (kOp (K := K) uEq (op_uEq hr) rfl) (pe_ix (kIx (K := K) rIx ix_u rfl) (pv 0) pe_int (fun _ _ => rfl)) pe_int (nomark _)) (pss_cons (ps_asg (pe_op op_uMod (pe_callTy (cr_uInt look) rfl T.f_int boot_int (pa_cons (pe_op (kOp (K := K) uAdd op_uAdd rfl) (pe_op op_uMul (pe_ix (kIx (K := K) rIx ix_u rfl) (pv 0) pe_int (fun _ _ => rfl)) pe_int) pe_int) pa_nil)) pe_int) (pg_sub (pv 0) pe_int set_list))
      (pss_one (ps_asg (pe_ix (kIx (K := K) rIx ix_u rfl) (pv 0) pe_int (fun _ _ => rfl)) (pg_sub (pv 0) pe_int set_list)))) pss_nil)))) pss_nil)
      (pss_cons (ps_set (i := 2) sc__law_take.nd rfl (by first | exact Or.inl rfl | exact Or.inr rfl) (pe_op op_uMod (pe_callTy (cr_uInt look) rfl T.f_int boot_int (pa_cons (pe_ix (kIx (K := K) rIx ix_u rfl) (pv 0) pe_int (fun _ _ => rfl)) pa_nil)) (pv 1)))
      (pss_cons (ps_asg (pe_op op_uDiv (pe_ix (kIx (K := K) rIx ix_u rfl) (pv 0) pe_int (fun _ _ => rfl)) (pv 1)) (pg_sub (pv 0) pe_int set_list))
      (pss_one (ps_ret (pv 2))))))), ?_⟩)
  · obtain ⟨cl, d, many, rfl, _⟩ := h
    rfl
  · obtain ⟨cl, d, many, rfl, ⟨i, c, m, ns, hd, hc, hcd, hi, hn⟩, h0, h1, k⟩ := h
    rw [show start N__law_take [V.ref d, V.int many] = [some (V.ref d), some (V.int many), none] from rfl]
    have at2 : ∀ (a b c d : V), atI [a, b, c, d] 2 = some c := fun a b c d => rfl
    have at1 : ∀ (a b c d : V), atI [a, b, c, d] 1 = some b := fun a b c d => rfl
    have at3 : ∀ (a b c d : V), atI [a, b, c, d] 3 = some d := fun a b c d => rfl
    walk_at "go"
    refine uIx_l (sl hd) (at2 _ _ _ _) ?_
    walk_at "go"
    apply ifjH (φ := fun H1 => But d H H1 ∧ ∃ (i c m : Int), H1 d = some (.lst [.ref cl, .int i, .int c, .int m]) ∧ H1 cl = some (.lst (ns.map V.int)) ∧ -1 ≤ i)
    case hb =>
      intro _ r
      walk_at "g1"
      exact r H ⟨.refl, i, c, m, hd, hc, hi⟩
    case ha =>
      intro hc0 r
      walk_at "go"
      refine uIx_l (sl hd) (at1 _ _ _ _) ?_
      walk_at "go"
      refine st_l hd (ixN_lit (k := 1) (by simp)) ?_
      walk_at "go"
      have hc1 : (upd H d (.lst ([V.ref cl, .int i, .int c, .int m].set 1 (.int (i + 1))))) cl = some (.lst (ns.map V.int)) := by rw [upd_ne hcd]; exact hc
      have hd1 : (upd H d (.lst ([V.ref cl, .int i, .int c, .int m].set 1 (.int (i + 1))))) d = some (.lst [.ref cl, .int (i + 1), .int c, .int m]) := upd_same
      have b1 : But d H (upd H d (.lst ([V.ref cl, .int i, .int c, .int m].set 1 (.int (i + 1))))) := But.put
      generalize upd H d (.lst ([V.ref cl, .int i, .int c, .int m].set 1 (.int (i + 1)))) = H1 at hc1 hd1 b1
      refine uIx_l (sl hd1) (at1 _ _ _ _) ?_
      walk_at "go"
      refine uIx_l (sl hd1) at_0 ?_
      walk_at "go"
      refine uLen_l (sl hc1) ?_
      walk_at "go"
      apply ifjH (φ := fun H2 => But d H H2 ∧ ∃ (c m : Int), H2 d = some (.lst [.ref cl, .int (i + 1), .int c, .int m]) ∧ H2 cl = some (.lst (ns.map V.int)))
      case hb =>
        intro _ r2
        walk_at "g1"
        exact r2 H1 ⟨b1, c, m, hd1, hc1⟩
      case ha =>
        intro hlt r2
        have hlt := of_decide_eq_true hlt
        rw [List.length_map] at hlt
        walk_at "go"
        refine uIx_l (sl hd1) at_0 ?_
        walk_at "go"
        refine uIx_l (sl hd1) (at1 _ _ _ _) ?_
        walk_at "go"
        obtain ⟨j, hj⟩ : ∃ j : Nat, i + 1 = (j : Int) := ⟨(i + 1).toNat, by omega⟩
        have hjl : j < ns.length := by omega
        refine uIx_l (v := .int ns[j]) (sl hc1) (by rw [hj]; exact atI_nat (by rw [List.getElem?_map, List.getElem?_eq_getElem hjl]; rfl)) ?_
        walk_at "go"
        refine st_l hd1 (ixN_lit (k := 2) (by simp)) ?_
        walk_at "g1"
        exact r2 _ ⟨b1.trans But.put, ns[j], m, upd_same, by rw [upd_ne hcd]; exact hc1⟩
      case q =>
        rintro H2 ⟨b2, c2, m2, hd2, hc2⟩
        walk_at "go"
        refine uIx_l (sl hd2) (at2 _ _ _ _) ?_
        walk_at "go"
        refine ifb (fun hz => ?_) (fun hz => ?_)
        · walk_at "go"
          refine uIx_l (sl hd2) (at3 _ _ _ _) ?_
          walk_at "go"
          refine uMul_i (by decide) ?_
          walk_at "go"
          refine uMod_i (by decide) ?_
          walk_at "go"
          refine st_l hd2 (ixN_lit (k := 3) (by simp)) ?_
          walk_at "go"
          have hd3 : (upd H2 d (.lst ([V.ref cl, .int (i + 1), .int c2, .int m2].set 3 (.int ((m2 * 48271 + 11) % 2147483647))))) d = some (.lst [.ref cl, .int (i + 1), .int c2, .int ((m2 * 48271 + 11) % 2147483647)]) := upd_same
          refine uIx_l (sl hd3) (at3 _ _ _ _) ?_
          walk_at "go"
          refine st_l hd3 (ixN_lit (k := 2) (by simp)) ?_
          walk_at "g1"
          exact r _ ⟨(b2.trans But.put).trans But.put, i + 1, _, _, upd_same, by rw [upd_ne hcd, upd_ne hcd]; exact hc2, by omega⟩
        · walk_at "g1"
          exact r H2 ⟨b2, i + 1, c2, m2, hd2, hc2, by omega⟩
    case q =>
      rintro H1 ⟨hb, i, c, m, h2, h3, hi⟩
      walk_at "go"
      refine uIx_l (sl h2) (at2 _ _ _ _) ?_
      walk_at "go"
      refine uMod_i h0 ?_
      walk_at "go"
      refine uIx_l (sl h2) (at2 _ _ _ _) ?_
      walk_at "go"
      refine uDiv_i h0 (by omega) ?_
      walk_at "go"
      refine st_l h2 (ixN_lit (k := 2) (by simp)) ?_
      walk_at "go"
      exact k _ _ (hb.trans But.put) ⟨i, _, m, ns, upd_same, by rw [upd_ne hcd]; exact h3, hcd, hi, hn⟩ (Int.emod_nonneg _ (by omega)) (Int.emod_lt_of_pos _ h0)
end
/-! ### data of the law as plain data -/
mutual
def pd : DM.D → PyData
  | .s w => .str (S w)
  | .i z => .int z
  | .t ds => .tuple (pds ds)
  | .x => .none
def pds : List DM.D → List PyData
  | [] => []
  | d :: r => pd d :: pds r
end
mutual
theorem DT.dp {K : PySem.W.Frag} {H : Hp} : ∀ {v : V} {d : DM.D}, DT H v d → Dp K H v (pd d)
  | _, _, .s w => by rw [pd]; exact .str _
  | _, _, .i z => by rw [pd]; exact .int _
  | _, _, .t h a => by rw [pd]; exact .tup (.inl (.inl h)) (DTs.dp a)
theorem DTs.dp {K : PySem.W.Frag} {H : Hp} : ∀ {v : List V} {d : List DM.D}, DTs H v d → DpAll K H v (pds d)
  | _, _, .nil => by rw [pds]; exact .nil
  | _, _, .cons h a => by rw [pds]; exact .cons (DT.dp h) (DTs.dp a)
end
mutual
theorem toD_pd : ∀ d : DM.D, toD (pd d) = d
  | .s w => by rw [pd, toD]
  | .i z => by rw [pd, toD]
  | .t ds => by rw [pd, toD, toDs_pds ds]
  | .x => by rw [pd, toD]
theorem toDs_pds : ∀ ds : List DM.D, toDs (pds ds) = ds
  | [] => by rw [pds, toDs]
  | d :: r => by rw [pds, toDs, toD_pd d, toDs_pds r]
end
mutual
theorem msz_pd : ∀ d : DM.D, msz (pd d) ≤ 2 * DM.dsz d
  | .s w => by rw [pd, msz, DM.dsz, S_len]; omega
  | .i z => by rw [pd, msz, DM.dsz]; omega
  | .t ds => by
    have := mszs_pds ds
    rw [pd, msz, DM.dsz]
    omega
  | .x => by rw [pd, msz, DM.dsz]; omega
theorem mszs_pds : ∀ ds : List DM.D, mszs (pds ds) ≤ 2 * DM.dszs ds
  | [] => by rw [pds, mszs]; omega
  | d :: r => by
    have h1 := msz_pd d
    have h2 := mszs_pds r
    rw [pds, mszs, DM.dszs]
    omega
end
theorem wordP_pd (d : DM.D) : wordP (pd d) = (match d with | .s w => DM.wordOk w | _ => false) := by
  cases d <;> rw [pd] <;> rfl
def spData (n : Nat) : Sp := fun vs H Q _ => ∃ (cl d : Addr), vs = [.ref d, .int (n : Nat)] ∧ DrawAt H cl d ∧ ∀ H' v dd, But d H H' → DrawAt H' cl d → DT H' v dd → DM.gd n dd → Q v H'
def spDataP : Nat → Sp
  | 0 => fun _ _ _ _ => False
  | n + 1 => spData n
theorem DrawAt.kt {H H' : Hp} {cl d : Addr} (h : DrawAt H cl d) (b : But d H H') : KeepT H H' := fun a xs e => b a _ e fun z => by
  obtain ⟨i, c, m, ns, hd, _⟩ := h
  rw [z, hd] at e
  cases e
section
variable {P : Program} {w : World} {K : PySem.W.Frag} {mg : Str → Option Value} {base : Heap}
theorem nev__law_data (T : Txt K mg) : Fnn P w K mg base "_law_data" 1 P__law_data (fun _ _ _ _ => False) := by
  refine mkFnn T.d__law_data T.g__law_data sc__law_data (fun _ _ _ _ _ _ us hl => match us, hl with | [_, _], _ => rfl) (fun vs H Q E h => h.elim) (fun cdv A outer s H vs Q E hr h => h.elim)
theorem ok__law_data (T : Txt K mg) (F__law_take : Fnn P w K mg base "_law_take" 1 P__law_take spTake) : ∀ n, Fnn P w K mg base "_law_data" (n + 1) P__law_data (spDataP n)
  | 0 => nev__law_data T
  | n + 1 => by
    have F__law_data := ok__law_data T F__law_take n
    refine mkFnn T.d__law_data T.g__law_data sc__law_data (fun _ _ _ _ _ _ us hl => match us, hl with | [_, _], _ => rfl) (fun vs H Q E h => ?_) (fun cdv A outer s H vs Q E hr h => ⟨_, ((pss_cons (ps_if (PW.pt (pw_and (pt_cmpR op_uGt (pv 1) pe_int (nomark _)) (pw_and1 (pt_cmpR (kOp (K := K) uEq (op_uEq hr) rfl) (pe_fn F__law_take (hr.mono (by omega)) rfl (pa_tk (takes_of rfl rfl rfl rfl)) (pa_cons (pv 0) (pa_cons pe_int pa_nil))) pe_int (nomark _))))) (pss_one (ps_ret (pe_callTy (kC (K := K) uTup cr_uTup rfl) rfl T.f_tuple boot_tuple (pa_cons (pe_lc (own := [("turn", 2)]) (g := gName 2) (tt := tYes) rfl sc__law_data.nd (pi_range1 rfl T.f_range (pa_cons (pe_fn F__law_take (hr.mono (by omega)) rfl (pa_tk (takes_of rfl rfl rfl rfl)) (pa_cons (pv 0) (pa_cons pe_int pa_nil))) pa_nil)) (blkOk_by (N := N__law_data) (sc := defScope s__law_data) (by decide +kernel)) (fun _ _ _ _ _ => pg_name (i := 2) sc__law_data.nd rfl (Or.inl rfl)) (fun _ _ _ _ _ => pts_nil) (fun _ _ _ _ _ => (pe_fn F__law_data (hr.mono (by omega)) rfl pa_0 (pa_cons (pv 0) (pa_cons (pe_op op_uSub (pv 1) pe_int) pa_nil))))) pa_nil)))) pss_nil)
      (pss_one (ps_ret (pe_ix (kIx (K := K) rIx ix_u rfl) (pe_lst (pa_cons (pe_S [97] (by decide +kernel)) (pa_cons (pe_S [120, 57] (by decide +kernel)) (pa_cons pe_int (pa_cons (pe_un un_uNeg pe_int) (pa_cons pe_int pa_nil)))))) (pe_fn F__law_take (hr.mono (by omega)) rfl (pa_tk (takes_of rfl rfl rfl rfl)) (pa_cons (pv 0) (pa_cons pe_int pa_nil))) (fun _ _ => rfl)))))), ?_⟩)
    · obtain ⟨cl, d, rfl, _⟩ := h
      rfl
    · obtain ⟨cl, d, rfl, hd, k⟩ := h
      rw [show start N__law_data [V.ref d, V.int (n : Nat)] = [some (V.ref d), some (V.int (n : Nat)), none] from rfl]
      have atoms : ∀ {σ : L2.St} {H1 : Hp}, σ = [some (V.ref d), some (V.int (n : Nat)), none] → But d H H1 → DrawAt H1 cl d → (tOp (rIx K) (tLst (tCons (tC (.str (S [97]))) (tCons (tC (.str (S [120, 57]))) (tCons (tC (.int 0)) (tCons (tUn uNeg (tC (.int 5))) (tCons (tC (.int 1000)) tNil))))))
          (tCallS spTake (WE fun cls d σ H => E cls d H) (tCons (tVar 0) (tCons (tC (.int 5)) tNil)))) σ H1 Q := by
        rintro σ H1 rfl b1 d1
        walk_at "go"
        refine ⟨sz (by simp), fun l hl => ?_⟩
        walk_at "go"
        refine ⟨cl, d, 5, rfl, d1.keep (Same.new hl), by decide, by decide, fun H2 q b2 d2 hq0 hq5 => ?_⟩
        walk_at "go"
        have hld : l ≠ d := fun e => by
          obtain ⟨_, _, _, _, h, _⟩ := d1
          rw [e, h] at hl
          cases hl
        have hl2 := b2 _ _ (upd_same (H := H1)) hld
        have b3 : But d H H2 := b1.trans fun b o hb hn => b2 b o (Same.new hl b o hb) hn
        have aw : ∀ w, DM.gW w → Q (.str (S w)) H2 := fun w hw => k _ _ (.s w) b3 d2 (.s w) (by cases n <;> exact hw)
        have ai : ∀ z, DM.gI z → Q (.int z) H2 := fun z hz => k _ _ (.i z) b3 d2 (.i z) (by cases n <;> exact hz)
        obtain ⟨j, rfl⟩ : ∃ j : Nat, q = (j : Int) := ⟨q.toNat, by omega⟩
        have : j = 0 ∨ j = 1 ∨ j = 2 ∨ j = 3 ∨ j = 4 := by omega
        rcases this with rfl | rfl | rfl | rfl | rfl
        · exact uIx_l (sl hl2) (atI_nat rfl) (aw _ (.inl rfl))
        · exact uIx_l (sl hl2) (atI_nat rfl) (aw _ (.inr rfl))
        · exact uIx_l (sl hl2) (atI_nat rfl) (ai _ (.inl rfl))
        · exact uIx_l (sl hl2) (atI_nat rfl) (ai _ (.inr (.inl rfl)))
        · exact uIx_l (sl hl2) (atI_nat rfl) (ai _ (.inr (.inr rfl)))
      walk_at "go"
      refine ifb (fun hpos => ?_) (fun hpos => ?_)
      · walk_at "go"
        refine ⟨cl, d, 2, rfl, hd, by decide, by decide, fun H1 r b1 d1 hr0 hr2 => ?_⟩
        walk_at "go"
        have hpos := of_decide_eq_true hpos
        refine ifd (fun h3 => ?_) (fun h3 => ?_)
        · walk_at "go"
          refine ⟨cl, d, 3, rfl, d1, by decide, by decide, fun H2 q b2 d2 hq0 hq3 => ?_⟩
          walk_at "go"
          refine ⟨q, rfl, by omega, by omega, fun D hD => ?_⟩
          obtain ⟨m, rfl⟩ : ∃ m, n = m + 1 := ⟨n - 1, by omega⟩
          have hdD : D ≠ d := fun e => by
            obtain ⟨_, _, _, _, h, _⟩ := d2
            rw [e, h] at hD
            cases hD
          refine lc_it walk_range (fun i H' => ∃ (vs : List V) (ds : List DM.D), vs.length = i ∧ H' D = some (.lst vs) ∧ DTs H' vs ds ∧ (∀ e ∈ ds, DM.gd m e) ∧ DrawAt H' cl d ∧ But d H2 H') ⟨[], [], rfl, upd_same, .nil, fun e he => (by cases he), d2.keep (Same.new hD), But.of (Same.new hD)⟩ (fun _ _ _ _ => True.intro) ?_ ?_
          · rintro i x H3 H4 hi ⟨vs, ds, hl, hv, hds, hg, d3, b3⟩ ⟨rfl, rfl⟩
            have hi : i < q.toNat := hi
            refine ⟨rfl, rd_yes (ift rfl ?_)⟩
            refine rd_st (σ' := [some (V.ref d), some (V.int ((m + 1 : Nat) : Int)), some (V.int (0 + (i : Int)))]) rfl ?_
            walk_at "go"
            rw [show (((m + 1 : Nat) : Int) - 1) = ((m : Nat) : Int) by omega]
            refine ⟨cl, d, rfl, d3, fun H5 v dd b5 d5 hv5 hg5 => ?_⟩
            have kt := d3.kt b5
            have hv2 : H5 D = some (.lst vs) := b5 _ _ hv hdD
            refine ⟨vs, hv2, small (by omega), vs ++ [v], ds ++ [dd], by simp [hl], upd_same, ((hds.keep kt).snoc hv5).keep (KeepT.lst hv2), fun e he => ?_, ?_, ?_⟩
            · rcases List.mem_append.mp he with z | z
              · exact hg e z
              · rw [List.mem_singleton.mp z]; exact hg5
            · obtain ⟨i5, c5, m5, ns5, e1, e2, e3⟩ := d5
              refine ⟨i5, c5, m5, ns5, by rw [upd_ne (Ne.symm hdD)]; exact e1, ?_, e3⟩
              rw [upd_ne (fun z => ?_)]
              · exact e2
              · obtain ⟨_, _, _, _, _, g2, _⟩ := d2
                rw [z, hD] at g2
                cases g2
            · intro b o hb hn
              rw [upd_ne (fun z => by rw [z, hD] at hb; cases hb)]
              exact b5 b o (b3 b o hb hn) hn
          · rintro H3 ⟨vs, ds, hl, hv, hds, hg, d3, b3⟩
            walk_at "go"
            refine uTup_l (sl hv) fun p hp => ?_
            refine k _ _ (.t ds) ((b1.trans b2).trans (b3.trans (But.of (Same.new hp)))) (d3.keep (Same.new hp)) (.t upd_same (hds.keep (KeepT.new hp))) ⟨?_, hg⟩
            rw [← hds.len, hl]
            omega
        · walk_at "g1"
          exact atoms rfl b1 d1
      · refine iff_ rfl ?_
        walk_at "g1"
        exact atoms rfl But.refl hd
end
theorem scan_le : ∀ (rs : List DM.L) (k n : Nat), DM.scanD k rs = .inl n → n ≤ k + rs.length
  | [], k, n, h => by cases h
  | r :: rs, k, n, h => by
    rw [DM.scanD] at h
    cases hp : DM.partOf (k % 3) r with
    | none =>
      rw [hp] at h
      cases h
      simp
    | some p =>
      rw [hp] at h
      simp only at h
      cases hs : DM.scanD (k + 1) rs with
      | inl m =>
        rw [hs] at h
        cases h
        have := scan_le rs (k + 1) _ hs
        simp
        omega
      | inr ps => rw [hs] at h; cases h
theorem dres_le {rows : List DM.L} {n : Nat} (h : DM.dres rows = .inl n) : n ≤ rows.length := by
  unfold DM.dres at h
  cases hs : DM.scanD 0 rows.dropLast with
  | inl m =>
    rw [hs] at h
    cases h
    have := scan_le _ _ _ hs
    rw [List.length_dropLast] at this
    omega
  | inr ps =>
    rw [hs] at h
    simp only at h
    split at h
    · cases h
    · cases h
      exact Nat.le_refl _
theorem mem_small (c : Nat) : decide (c ∈ [97, 98, 99, 100, 101, 102, 103, 104, 105, 106, 107, 108, 109, 110, 111, 112, 113, 114, 115, 116, 117, 118, 119, 120, 121, 122]) = DM.letter c := by
  unfold DM.letter
  rw [Bool.eq_iff_iff]
  simp only [decide_eq_true_eq, List.mem_cons, List.not_mem_nil, or_false, Bool.and_eq_true]
  omega
theorem mem_sign (c : Nat) : decide (c ∈ [97, 98, 99, 100, 101, 102, 103, 104, 105, 106, 107, 108, 109, 110, 111, 112, 113, 114, 115, 116, 117, 118, 119, 120, 121, 122] ++ [48, 49, 50, 51, 52, 53, 54, 55, 56, 57]) = DM.wsign c := by
  unfold DM.wsign DM.letter DM.digit
  rw [Bool.eq_iff_iff]
  simp only [decide_eq_true_eq, List.mem_append, List.mem_cons, List.not_mem_nil, or_false, Bool.and_eq_true, Bool.or_eq_true]
  omega
def spIW : Sp := fun vs H Q _ => ∃ l : List Nat, vs = [.str (S l)] ∧ l.length ≤ 1000000 ∧ ∀ H', Same H H' → Q (.bl (DM.wordOk l)) H'
def spLRd (K : PySem.W.Frag) : Sp := fun vs H Q _ => ∃ t : List Nat, vs = [.str (S t)] ∧ t.length ≤ 1000000 ∧
  (∀ d, DM.rd t = some d → ∀ H' p u, Same H H' → H p = none → H' p = some (.lst [u]) → DT H' u d → Q (.ref p) H') ∧ (DM.rd t = none → ∀ H' p, Same H H' → H p = none → H' p = some (.lst []) → Q (.ref p) H')
abbrev noText : List Nat := [110, 111, 32, 116, 101, 120, 116]
def spTold (K : PySem.W.Frag) : Sp := fun vs H Q _ => (∃ v : V, vs = [.int 0, v] ∧
    ((∃ n, TyX K H v (.type n) ∧ kitB n "list" = some false ∧ ∀ (H' : Hp) (m : List Nat), m.length ≤ 100 → Same H H' → Q (.str (S ([60] ++ m ++ [62]))) H') ∨
     (∃ (p : Addr) (xs : List V) (os : List (Option (List (List Nat)))), v = .ref p ∧ SqL K H p xs ∧ EntAll K H xs os ∧ xs.length ≤ 100000 ∧
       (∀ ls, seqO os = some ls → ls.flatten.length ≤ 1000000 ∧ ∀ H', Same H H' → Q (.str (S ls.flatten)) H') ∧
       (seqO os = none → ∀ (H' : Hp) (m : List Nat), m.length ≤ 100 → Same H H' → Q (.str (S ([60] ++ m ++ [62]))) H')))) ∨
  (∃ v : V, vs = [.int 1, v] ∧
    ((∃ n, TyX K H v (.type n) ∧ kitB n "str" = some false ∧ ∀ H', Same H H' → Q (.str (S ([60] ++ noText ++ [62]))) H') ∨
     (∃ tx : List Nat, v = .str (S tx) ∧ tx.length ≤ 39990 ∧ (∀ n, DM.dres (rowsOf tx) = .inl n → ∀ H', Same H H' → Q (.str (S ([60] ++ rowMsg n ++ [62]))) H') ∧
       (∀ ps, DM.dres (rowsOf tx) = .inr ps → ∀ (H' : Hp) (p : Addr), Same H H' → DrAt K H' p ps → Q (.ref p) H'))))
section
variable {P : Program} {w : World} {K : PySem.W.Frag} {mg : Str → Option Value} {base : Heap}
theorem ok__law_is_word (T : Txt K mg) : Fnn P w K mg base "_law_is_word" 1 P__law_is_word spIW := by
  refine mkFnn T.d__law_is_word T.g__law_is_word sc__law_is_word (fun _ _ _ _ _ _ us hl => match us, hl with | [_], _ => rfl) (fun vs H Q E h => ?_) (fun cdv A outer s H vs Q E hr h => ⟨_, ((pss_cons (ps_set (i := 1) sc__law_is_word.nd rfl (by first | exact Or.inl rfl | exact Or.inr rfl) (pe_S [97, 98, 99, 100, 101, 102, 103, 104, 105, 106, 107, 108, 109, 110, 111, 112, 113, 114, 115, 116, 117, 118, 119, 120, 121, 122] (by decide +kernel)))
      (pss_one (ps_ret (pe_and (pe_chain op_uLt op_uLt pe_int (pe_callB (kC (K := K) uLen cr_uLen rfl) rfl T.f_len boot_len (pa_cons (pv 0) pa_nil)) pe_int) (pe_and (pe_cmpR (kOp (K := K) uIn op_uIn rfl) (pe_ix (kIx (K := K) rIx ix_u rfl) (pv 0) pe_int (fun _ _ => rfl)) (pv 1) (by with_unfolding_all rfl)) (pe_one (pe_callB (kC (K := K) rAll (cr_all rfl) rfl) rfl T.f_all boot_all (pa_cons (pe_lc (own := [("sign", 2)]) (g := gName 2) (tt := tYes) rfl sc__law_is_word.nd (pi_str (pv 0)) (blkOk_by (N := N__law_is_word) (sc := defScope s__law_is_word) (by decide +kernel)) (fun _ _ _ _ _ => pg_name (i := 2) sc__law_is_word.nd rfl (Or.inl rfl)) (fun _ _ _ _ _ => pts_nil) (fun _ _ _ _ _ => (pe_cmpR (kOp (K := K) uIn op_uIn rfl) (pv 2) (pe_op (kOp (K := K) uAdd op_uAdd rfl) (pv 1) (pe_S [48, 49, 50, 51, 52, 53, 54, 55, 56, 57] (by decide +kernel))) (by with_unfolding_all rfl)))) pa_nil))))))))), ?_⟩)
  · obtain ⟨l, rfl, _⟩ := h
    rfl
  · obtain ⟨l, rfl, hl, k⟩ := h
    have hz : l.length ≤ sizeLine := Nat.le_of_lt (small (by omega))
    rw [show start N__law_is_word [V.str (S l)] = [some (V.str (S l)), none, none] from rfl]
    walk_at "go"
    refine uLen_s hz ?_
    walk_at "go"
    have no : DM.wordOk l = false → Q (.bl false) H := fun e => by
      rw [← e]
      exact k _ (.refl _)
    cases l with
    | nil =>
      refine iff_ rfl ?_
      refine ⟨false, rfl, iff_ rfl (no rfl)⟩
    | cons c r =>
    refine ift (by simp) ?_
    walk_at "go"
    have hw : DM.wordOk (c :: r) = (DM.letter c && ((c :: r).all DM.wsign && decide ((c :: r).length ≤ 12))) := rfl
    refine ifd (fun h13 => ?_) (fun h13 => ?_)
    · walk_at "go"
      refine uIx_s (c := c) hz at_0 ?_
      walk_at "go"
      rw [mem_small]
      refine ifb (fun hc => ?_) (fun hc => ?_)
      · walk_at "go"
        intro D hD
        refine lc_its (fun c => .bl (DM.wsign c)) hz (fun _ => rfl) (fun d hd H' Q q => ?_) ?_
        · refine rd_st (σ' := [some (V.str (S (c :: r))), some (V.str (S [97, 98, 99, 100, 101, 102, 103, 104, 105, 106, 107, 108, 109, 110, 111, 112, 113, 114, 115, 116, 117, 118, 119, 120, 121, 122])), some (V.str (S [d]))]) rfl ?_
          walk_at "go"
          refine uAdd_s (sz (by simp)) ?_
          walk_at "go"
          rw [mem_sign]
          exact q
        · walk_at "go"
          have e1 : ((c :: r).map fun c => V.bl (DM.wsign c)) = ((c :: r).map DM.wsign).map V.bl := by rw [List.map_map]; rfl
          refine uAll_l (bs := (c :: r).map DM.wsign) (sl (by rw [upd_same, e1])) ?_
          have e2 : ((c :: r).map DM.wsign).all id = DM.wordOk (c :: r) := by
            rw [hw, hc, decide_eq_true (by omega), Bool.and_true, Bool.true_and, List.all_map]
            rfl
          rw [e2]
          exact k _ (Same.new hD)
      · walk_at "go"
        exact no (by rw [hw, hc, Bool.false_and])
    · exact no (by rw [hw, decide_eq_false (by omega), Bool.and_false, Bool.and_false])
theorem ok__law_read (T : Txt K mg) (F_read_data : FnZ famN P w K mg base "read_data" 4 P_read_data (spRD (K := K) (CM K))) : Fnn P w K mg base "_law_read" 5 P__law_read (spLRd K) := by
  refine mkFnn T.d__law_read T.g__law_read sc__law_read (fun _ _ _ _ _ _ us hl => match us, hl with | [_], _ => rfl) (fun vs H Q E h => ?_) (fun cdv A outer s H vs Q E hr h => ⟨_, ((pss_one (ps_takeXK (K := K) (F := famN) (tb := _) (ts := fun a cls d => _) rfl rfl ⟨rfl, by decide, Or.inl T.g_Malformed⟩ (L2H.passesAt_of rfl) (takesZ0 (G := famM)) (fun _ _ _ h => h.2.2) (fun W pn xe tk _ => (pss_one (ps_ret (pe_lst (pa_cons (pe_fnZ F_read_data (hr.mono (by omega)) rfl (pa_tkZ tk) (pa_cons (pv 0) pa_nil)) pa_nil))))) (fun a oe cls d pn hz hf tkS hot => (pss_one (ps_ret (pe_lst pa_nil)))) rfl))), ?_⟩)
  · obtain ⟨l, rfl, _⟩ := h
    rfl
  · obtain ⟨t, rfl, hl, kS, kN⟩ := h
    rw [show start N__law_read [V.str (S t)] = [some (V.str (S t))] from rfl]
    refine rd_try ?_
    walk_at "go"
    refine ⟨.str (S t), rfl, .inl ⟨t, rfl, hl, fun d hd H1 u s1 hu => ?_, fun hn H1 s1 => ?_⟩⟩
    · walk_at "go"
      exact ⟨sz (by simp), fun p hp => kS d hd _ p u (s1.trans (Same.new hp)) (s1.free hp) upd_same (hu.keep (KeepT.new hp))⟩
    · refine ⟨T.e_Malformed, fun a ha => ?_⟩
      show tRet _ _ _ _
      walk_at "go"
      exact ⟨sz (by simp), fun p hp => kN hn _ p (s1.trans (Same.new hp)) (s1.free hp) upd_same⟩
theorem ok__law_told (T : Txt K mg) (F_write_diary : FnZ famM P w K mg base "write_diary" 4 P_write_diary (spWDi K (CM K))) (F_read_diary : FnZ famM P w K mg base "read_diary" 6 P_read_diary (spRDi K (CM K))) :
    Fnn P w K mg base "_law_told" 7 P__law_told (spTold K) := by
  refine mkFnn T.d__law_told T.g__law_told sc__law_told (fun _ _ _ _ _ _ us hl => match us, hl with | [_, _], _ => rfl) (fun vs H Q E h => ?_) (fun cdv A outer s H vs Q E hr h => ⟨_, ((pss_one (ps_take_as (F := famM) (i := 2) (tb := _) (ts := fun a cls d => _) rfl rfl sc__law_told.nd rfl rfl ⟨rfl, by decide, Or.inl T.g_Malformed⟩ (fun W pn xe tk _ => (pss_one (ps_ret (pe_ifExp (pt_cmpR (kOp (K := K) uEq (op_uEq hr) rfl) (pv 0) pe_int (nomark _)) (pe_fnZ F_write_diary (hr.mono (by omega)) rfl (pa_tkZ tk) (pa_cons (pv 1) pa_nil)) (pe_fnZ F_read_diary (hr.mono (by omega)) rfl (pa_tkZ tk) (pa_cons (pv 1) pa_nil)))))) (fun a oe cls d pn hz hf => (pss_one (ps_ret (pe_op (kOp (K := K) uAdd op_uAdd rfl) (pe_op (kOp (K := K) uAdd op_uAdd rfl) (pe_S [60] (by decide +kernel)) (pe_callTy (kC (K := K) (fun K => uStrE K a cls d) (cr_strE hz (Nat.lt_of_le_of_lt (Nat.add_le_add_left (by decide : 2 ≤ 64) _) hr.units)) rfl) rfl T.f_str boot_str (pa_cons (pv 2) pa_nil))) (pe_S [62] (by decide +kernel))))))))), ?_⟩)
  · rcases h with ⟨v, rfl, _⟩ | ⟨v, rfl, _⟩ <;> rfl
  · have exc : ∀ {i : Int} {v : V} {D : Ends} {a t : Addr} {m : List Nat} {H' : Hp}, m.length ≤ 1000 → H' t = some (.tup [.str (S m)]) → D.rt (.str (S ([60] ++ m ++ [62]))) H' →
        (tRet (tOp (uAdd K) (tOp (uAdd K) (tC (.str (S [60]))) (tCB (uStrE K a (.ref (CM K)) (some t)) (tCons (tVar 2) tNil))) (tC (.str (S [62]))))) (dropAt 2 D) ([some (.int i), some v, none].set 2 (some (.ref a))) H' := by
      intro i v D a t m H' hm ht q
      refine rds_st (σ' := [some (.int i), some v, some (.ref a)]) rfl ?_
      unfold dropAt
      walk_at "go"
      refine uStrE_x (strCB_ok T.s_Malformed) ht ?_
      walk_at "go"
      refine uAdd_s (Nat.le_of_lt (small (by simp only [List.length_cons, List.length_nil]; omega))) ?_
      walk_at "go"
      refine uAdd_s (Nat.le_of_lt (small (by simp only [List.length_append, List.length_cons, List.length_nil]; omega))) ?_
      exact q
    rcases h with ⟨v, rfl, h⟩ | ⟨v, rfl, h⟩
    · rw [show start N__law_told [V.int 0, v] = [some (V.int 0), some v, none] from rfl]
      show tRet _ _ _ _
      walk_at "go"
      refine ift rfl ?_
      walk_at "go"
      rcases h with ⟨n, ty, hn, kN⟩ | ⟨p, xs, os, rfl, hp, hA, hlen, kS, kN⟩
      · exact ⟨v, rfl, .inl ⟨n, ty, hn, fun H' t m hm s' ht => ⟨T.e_Malformed, fun a ha => exc (by omega) ht (kN H' m hm s')⟩⟩⟩
      · exact ⟨_, rfl, .inr ⟨p, xs, os, rfl, hp, hA, hlen, kS, fun hn H' t m hm s' ht => ⟨T.e_Malformed, fun a ha => exc (by omega) ht (kN hn H' m hm s')⟩⟩⟩
    · rw [show start N__law_told [V.int 1, v] = [some (V.int 1), some v, none] from rfl]
      show tRet _ _ _ _
      walk_at "go"
      refine iff_ rfl ?_
      walk_at "go"
      rcases h with ⟨n, ty, hn, kN⟩ | ⟨tx, rfl, hz, kN, kS⟩
      · exact ⟨v, rfl, .inl ⟨n, ty, hn, fun H' t s' ht => ⟨T.e_Malformed, fun a ha => exc (by decide) ht (kN H' s')⟩⟩⟩
      · refine ⟨_, rfl, .inr ⟨tx, rfl, hz, fun n hn H' t s' ht => ⟨T.e_Malformed, fun a ha => exc ?_ ht (kN n hn H' s')⟩, kS⟩⟩
        have h1 := dres_le hn
        have h2 := rows_len tx
        have h3 := num_len (n := n) (by omega)
        unfold rowMsg
        rw [List.length_append]
        simp only [List.length_cons, List.length_nil]
        omega
end
def DuT (H : Hp) (v : V) (l k t : List Nat) (ds : List DM.D) : Prop := ∃ (a d : Addr) (dvs : List V), v = .ref a ∧ H a = some (.tup [.str (S l), .str (S k), .str (S t), .ref d]) ∧ H d = some (.tup dvs) ∧ DTs H dvs ds
theorem DuT.keep {H H' : Hp} (e : KeepT H H') {v : V} {l k t : List Nat} {ds : List DM.D} (h : DuT H v l k t ds) : DuT H' v l k t ds := by
  obtain ⟨a, d, dvs, rfl, h1, h2, h3⟩ := h
  exact ⟨a, d, dvs, rfl, e _ _ h1, e _ _ h2, h3.keep e⟩
def DuAt (H : Hp) (p : Addr) (ps : List DM.Pt) : Prop := ∃ xs : List V, H p = some (.lst xs) ∧ ps.length = 3 * xs.length ∧ xs.length ≤ 1000000 ∧ ∀ j v, xs[j]? = some v → ∃ l k t ds, Tri ps j l k t ds ∧ DuT H v l k t ds
def spDue : Sp := fun vs H Q _ => ∃ tx : List Nat, vs = [.str (S tx)] ∧ tx.length ≤ 39990 ∧ (∀ n, DM.dres (rowsOf tx) = .inl n → ∀ H', Same H H' → Q (.int (n : Nat)) H') ∧
  (∀ ps, DM.dres (rowsOf tx) = .inr ps → ∀ (H' : Hp) (p : Addr), Same H H' → DuAt H' p ps → Q (.ref p) H')
/-- the part of an entry that stands -/
def PrtS (H : Hp) (ps : List DM.Pt) (o : Option V) : Prop :=
  (∀ i, ps.length = 3 * i + 1 → ∃ (q : Addr) (l : List Nat), o = some (.ref q) ∧ H q = some (.lst [.str (S l)]) ∧ ps[3 * i]? = some (.ln l) ∧ l.length ≤ 40000) ∧
  (∀ i, ps.length = 3 * i + 2 → ∃ (q : Addr) (l k t : List Nat), o = some (.ref q) ∧ H q = some (.lst [.str (S l), .str (S k), .str (S t)]) ∧ ps[3 * i]? = some (.ln l) ∧ ps[3 * i + 1]? = some (.kt k t) ∧ DM.wordOk k = true ∧ l.length ≤ 40000 ∧ k.length ≤ 40000 ∧ t.length ≤ 40000)
theorem tri_more {ps qs : List DM.Pt} {j : Nat} {l k t : List Nat} {ds : List DM.D} (h : Tri ps j l k t ds) : Tri (ps ++ qs) j l k t ds := by
  obtain ⟨h1, h2, h3, h4, r⟩ := h
  have up : ∀ {i : Nat} {p : DM.Pt}, ps[i]? = some p → (ps ++ qs)[i]? = some p := fun h => by rw [List.getElem?_append_left (List.getElem?_eq_some_iff.mp h).1]; exact h
  exact ⟨up h1, up h2, h3, up h4, r⟩
/-- the loop over the rows -/
def DuI (H : Hp) (tx : List Nat) (lp fl : Addr) (i : Nat) (σ : L2.St) (H' : Hp) : Prop := ∃ (xs : List V) (ps : List DM.Pt) (o3 o4 o5 o6 o7 o8 o9 o10 : Option V), σ = [some (.str (S tx)), some (.ref lp), some (.ref fl), o3, o4, o5, o6, o7, o8, o9, o10] ∧ Same H H' ∧ H lp = none ∧ H fl = none ∧ lp ≠ fl ∧
  H' lp = some (.lst (txts (rowsOf tx))) ∧ H' fl = some (.lst xs) ∧ ps.length = i ∧ xs.length = i / 3 ∧ (∀ (j : Nat) (v : V), xs[j]? = some v → ∃ l k t ds, Tri ps j l k t ds ∧ DuT H' v l k t ds) ∧ PrtS H' ps o3 ∧
  DM.scanD 0 (rowsOf tx).dropLast = DM.addP ps (DM.scanD i ((rowsOf tx).dropLast.drop i))
section
variable {P : Program} {w : World} {K : PySem.W.Frag} {mg : Str → Option Value} {base : Heap}
theorem ok__law_due (T : Txt K mg) (look : PySem.W.nsIn K cStatics digName = some none) (F__law_is_word : Fnn P w K mg base "_law_is_word" 1 P__law_is_word spIW) (F__law_read : Fnn P w K mg base "_law_read" 5 P__law_read (spLRd K)) :
    Fnn P w K mg base "_law_due" 6 P__law_due spDue := by
  refine mkFnn T.d__law_due T.g__law_due sc__law_due (fun _ _ _ _ _ _ us hl => match us, hl with | [_], _ => rfl) (fun vs H Q E h => ?_) (fun cdv A outer s H vs Q E hr h => ⟨_, ((pss_cons (ps_par3 (i := 1) (j := 2) (l := 3) rfl sc__law_due.nd rfl rfl rfl (by decide) (by decide) (by decide) rfl rfl rfl (pa_cons (pe_splitU (pv 0) (pe_S [10] (by decide +kernel))) (pa_cons (pe_lst pa_nil) (pa_cons (pe_lst pa_nil) pa_nil))) rfl)
      (pss_cons (ps_for (passes_of rfl) rfl (pi_range1 rfl T.f_range (pa_cons (pe_op op_uSub (pe_callB (kC (K := K) uLen cr_uLen rfl) rfl T.f_len boot_len (pa_cons (pv 1) pa_nil)) pe_int) pa_nil)) (pg_name (i := 4) sc__law_due.nd rfl (by first | exact Or.inl rfl | exact Or.inr rfl)) (pss_cons (ps_par (i := 5) (j := 6) rfl sc__law_due.nd rfl rfl (by decide) rfl rfl (pa_cons (pe_ix (kIx (K := K) rIx ix_u rfl) (pv 1) (pv 4) (fun _ _ => rfl)) (pa_cons (pe_op op_uMod (pe_callTy (cr_uInt look) rfl T.f_int boot_int (pa_cons (pv 4) pa_nil)) pe_int) pa_nil)) rfl)
      (pss_cons (ps_if (pt_cmpR (kOp (K := K) uNe (op_uNe hr) rfl) (pe_slice (kSl (K := K) uSl sl_u rfl) (pv 5) po_none (po_some pe_int)) (pe_ix (kIx (K := K) rIx ix_u rfl) (pe_lst (pa_cons (pe_S [62, 32] (by decide +kernel)) (pa_cons (pe_S [61, 32] (by decide +kernel)) (pa_cons (pe_S [35, 32] (by decide +kernel)) pa_nil)))) (pv 6) (fun _ _ => rfl)) (nomark _)) (pss_one (ps_ret (pe_op (kOp (K := K) uAdd op_uAdd rfl) (pv 4) pe_int))) pss_nil)
      (pss_one (ps_if (pt_cmpR (kOp (K := K) uEq (op_uEq hr) rfl) (pv 6) pe_int (nomark _)) (pss_one (ps_set (i := 3) sc__law_due.nd rfl (by first | exact Or.inl rfl | exact Or.inr rfl) (pe_lst (pa_cons (pe_slice (kSl (K := K) uSl sl_u rfl) (pv 5) (po_some pe_int) po_none) pa_nil)))) (pss_one (ps_if (pt_cmpR (kOp (K := K) uEq (op_uEq hr) rfl) (pv 6) pe_int (nomark _)) (pss_cons (ps_asg (pe_partU (pe_slice (kSl (K := K) uSl sl_u rfl) (pv 5) (po_some pe_int) po_none) (pe_S [32] (by decide +kernel))) (pg_tupK (K := K) rfl (pgs_cons (pg_name (i := 7) sc__law_due.nd rfl (by first | exact Or.inl rfl | exact Or.inr rfl)) (pgs_cons (pg_name (i := 8) sc__law_due.nd rfl (by first | exact Or.inl rfl | exact Or.inr rfl)) (pgs_cons (pg_name (i := 9) sc__law_due.nd rfl (by first | exact Or.inl rfl | exact Or.inr rfl)) pgs_nil))) rfl))
      (pss_cons (ps_if (PW.pt (pw_or (pt_cmpR (kOp (K := K) uEq (op_uEq hr) rfl) (pv 8) (pe_S [] (by decide +kernel)) (nomark _)) (pw_or1 (pt_not (pt_val (pe_fn F__law_is_word (hr.mono (by omega)) rfl (pa_tk (takes_of rfl rfl rfl rfl)) (pa_cons (pv 7) pa_nil))))))) (pss_one (ps_ret (pe_op (kOp (K := K) uAdd op_uAdd rfl) (pv 4) pe_int))) pss_nil)
      (pss_one (ps_set (i := 3) sc__law_due.nd rfl (by first | exact Or.inl rfl | exact Or.inr rfl) (pe_op (kOp (K := K) uAdd op_uAdd rfl) (pv 3) (pe_lst (pa_cons (pv 7) (pa_cons (pv 9) pa_nil)))))))) (pss_cons (ps_set (i := 10) sc__law_due.nd rfl (by first | exact Or.inl rfl | exact Or.inr rfl) (pe_fn F__law_read (hr.mono (by omega)) rfl (pa_tk (takes_of rfl rfl rfl rfl)) (pa_cons (pe_slice (kSl (K := K) uSl sl_u rfl) (pv 5) (po_some pe_int) po_none) pa_nil)))
      (pss_cons (ps_if (PW.pt (pw_or (pt_cmpR (kOp (K := K) uEq (op_uEq hr) rfl) (pv 10) (pe_lst pa_nil) (nomark _)) (pw_or1 (pt_not (pt_val (pe_callB (kC (K := K) rIsi call_isi rfl) rfl T.f_isinstance boot_isinstance (pa_cons (pe_ix (kIx (K := K) rIx ix_u rfl) (pv 10) pe_int (fun _ _ => rfl)) (pa_cons (pe_bltn (v := .ty "tuple") rfl T.f_tuple boot_tuple rfl) pa_nil)))))))) (pss_one (ps_ret (pe_op (kOp (K := K) uAdd op_uAdd rfl) (pv 4) pe_int))) pss_nil)
      (pss_one (ps_expr (pe_bmK (K := K) PySem.F.plainAttrs_list PySem.F.slot_list_append PySem.F.type_list_append mt_append (pv 2) (pa_cons (pe_callTy (kC (K := K) uTup cr_uTup rfl) rfl T.f_tuple boot_tuple (pa_cons (pe_op (kOp (K := K) uAdd op_uAdd rfl) (pv 3) (pv 10)) pa_nil)) pa_nil) rfl))))))))))))
      (pss_one (ps_ret (pe_ifExp (PW.pt (pw_and (pt_cmpR (kOp (K := K) uEq (op_uEq hr) rfl) (pe_ix (kIx (K := K) rIx ix_u rfl) (pv 1) (pe_un un_uNeg pe_int) (fun _ _ => rfl)) (pe_S [] (by decide +kernel)) (nomark _)) (pw_and1 (pt_cmpR (kOp (K := K) uEq (op_uEq hr) rfl) (pe_op op_uMod (pe_callTy (cr_uInt look) rfl T.f_int boot_int (pa_cons (pe_op op_uSub (pe_callB (kC (K := K) uLen cr_uLen rfl) rfl T.f_len boot_len (pa_cons (pv 1) pa_nil)) pe_int) pa_nil)) pe_int) pe_int (nomark _))))) (pv 2) (pe_callB (kC (K := K) uLen cr_uLen rfl) rfl T.f_len boot_len (pa_cons (pv 1) pa_nil)))))))), ?_⟩)
  · obtain ⟨tx, rfl, _⟩ := h
    rfl
  · obtain ⟨tx, rfl, hz, kN, kS⟩ := h
    rw [show start N__law_due [V.str (S tx)] = [some (V.str (S tx)), none, none, none, none, none, none, none, none, none, none] from rfl]
    walk_at "go"
    have hrl : (TL.spl [10] 0 [] tx).length ≤ tx.length + 1 := rows_len tx
    have hrl' : (rowsOf tx).length ≤ tx.length + 1 := hrl
    have hrn := rows_ne tx
    have hrp : 1 ≤ (TL.spl [10] 0 [] tx).length := List.length_pos_iff.mpr hrn
    refine uSplit_c (by decide) (Nat.le_of_lt (small (by omega))) fun lp hlp => ?_
    walk_at "go"
    refine ⟨sz (by simp), fun fl hfl => ?_⟩
    have hne : lp ≠ fl := fun e => by rw [e, upd_same] at hfl; cases hfl
    have hfn : H fl = none := by rw [upd_ne (Ne.symm hne)] at hfl; exact hfl
    walk_at "go"
    refine ⟨sz (by simp), fun q0 hq0 => ?_⟩
    walk_at "go"
    have hlq : lp ≠ q0 := fun e => by rw [← e, upd_ne hne, upd_same] at hq0; cases hq0
    have hfq : fl ≠ q0 := fun e => by rw [← e, upd_same] at hq0; cases hq0
    have hqn : H q0 = none := by rw [upd_ne (Ne.symm hfq), upd_ne (Ne.symm hlq)] at hq0; exact hq0
    refine uLen_l (sl (by rw [upd_ne hlq, upd_ne hne, upd_same])) ?_
    walk_at "go"
    rw [List.length_map]
    refine ⟨_, rfl, by omega, by omega, ?_⟩
    have hdl : (rowsOf tx).dropLast.length = (rowsOf tx).length - 1 := List.length_dropLast
    rw [show (((rowsOf tx).length : Int) - 1).toNat = (rowsOf tx).dropLast.length by rw [hdl]; omega]
    refine fo_it walk_range (DuI H tx lp fl) ⟨[], [], _, _, _, _, _, _, _, _, rfl, Same.put (Same.put (Same.new hlp) hfn) hqn, hlp, hfn, hne, by rw [upd_ne hlq, upd_ne hne, upd_same], by rw [upd_ne hfq, upd_same], rfl, rfl, (fun j v h => by cases j <;> cases h), ⟨(fun i h => by simp at h), (fun i h => by simp at h)⟩, by rw [DM.addP_nil]; rfl⟩ (fun _ _ _ _ _ => True.intro) ?_ ?_
    · rintro i x σ H1 H2 hi ⟨xs, ps, o3, o4, o5, o6, o7, o8, o9, o10, rfl, s1, _, _, _, hL1, hF1, hpl, hxl, hx, hprt, hm⟩ ⟨rfl, rfl⟩
      have hil : i < (rowsOf tx).dropLast.length := hi
      obtain ⟨row, hrow⟩ : ∃ row, (rowsOf tx).dropLast[i]? = some row := ⟨_, List.getElem?_eq_getElem hil⟩
      have hrow' : (rowsOf tx)[i]? = some row := by
        rw [List.getElem?_dropLast] at hrow
        split at hrow
        · exact hrow
        · cases hrow
      rw [DM.scan_step hrow] at hm
      have hrl2 := row_len (List.mem_of_getElem? hrow')
      have hi2 : i ≤ 1000000 := by
        rw [hdl] at hil
        omega
      have ret : DM.partOf (i % 3) row = none → ∀ H', Same H H' → Q (.int (0 + (i : Int) + 1)) H' := fun hn H' s' => by
        rw [show (0 : Int) + (i : Int) + 1 = ((i + 1 : Nat) : Int) by omega]
        exact kN (i + 1) (dres_l (by rw [hm, hn]; rfl)) H' s'
      have hzr : row.length ≤ sizeLine := Nat.le_of_lt (small (by omega))
      have hdr : (row.drop 2).length ≤ 40000 := by rw [List.length_drop]; omega
      walk_at "go"
      refine uIx_l (v := .str (S row)) (sl hL1) (by rw [Int.zero_add]; exact atI_nat (by rw [List.getElem?_map, hrow']; rfl)) ?_
      walk_at "go"
      refine uMod_i (by decide) ?_
      walk_at "go"
      refine uSl_s hzr ?_
      rw [show cutL row none (some 2) = row.take 2 from cut_to (i := 2)]
      walk_at "go"
      refine ⟨sz (by simp), fun q1 hq1 => ?_⟩
      walk_at "go"
      have s2 : Same H2 (upd H2 q1 (.lst [V.str (S [62, 32]), .str (S [61, 32]), .str (S [35, 32])])) := Same.new hq1
      have hat : atI [V.str (S [62, 32]), .str (S [61, 32]), .str (S [35, 32])] ((0 + (i : Int)) % 3) = some (.str (S (DM.mark (i % 3)))) := by
        rw [show ((0 : Int) + (i : Int)) % 3 = ((i % 3 : Nat) : Int) by omega]
        have h3 : i % 3 < 3 := Nat.mod_lt _ (by decide)
        generalize i % 3 = m at h3
        match m, h3 with
        | 0, _ => rfl
        | 1, _ => rfl
        | 2, _ => rfl
      refine uIx_l (sl upd_same) hat ?_
      walk_at "go"
      refine ifnd (fun hnm => ?_) (fun hmk => ?_)
      · walk_at "go"
        exact ret (by unfold DM.partOf; rw [if_neg hnm]) _ (s1.trans s2)
      · have hti : ((0 : Int) + (i : Int)) % 3 = ((i % 3 : Nat) : Int) := by omega
        have pat : ∀ p, (ps ++ [p])[i]? = some p := fun p => by rw [List.getElem?_append_right (Nat.le_of_eq hpl), hpl, Nat.sub_self]; rfl
        have pbe : ∀ p {j : Nat} {r : DM.Pt}, ps[j]? = some r → (ps ++ [p])[j]? = some r := fun p j r h => by rw [List.getElem?_append_left (List.getElem?_eq_some_iff.mp h).1]; exact h
        have plen : ∀ p, (ps ++ [p]).length = i + 1 := fun p => by rw [List.length_append, hpl]; rfl
        have hm3 : i % 3 < 3 := Nat.mod_lt _ (by decide)
        have mth : ∀ {p}, DM.partOf (i % 3) row = some p → DM.scanD 0 (rowsOf tx).dropLast = DM.addP (ps ++ [p]) (DM.scanD (i + 1) ((rowsOf tx).dropLast.drop (i + 1))) := fun {p} hp => by rw [hm, hp, DM.addP_addP]
        have hL2 := s2 _ _ hL1
        have hF2 := s2 _ _ hF1
        generalize upd H2 q1 (HO.lst [V.str (S [62, 32]), .str (S [61, 32]), .str (S [35, 32])]) = H3 at s2 hL2 hF2
        have hprt2 : PrtS H3 ps o3 := ⟨fun j h => by
          obtain ⟨q, l, e1, e2, e3⟩ := hprt.1 j h
          exact ⟨q, l, e1, s2 _ _ e2, e3⟩, fun j h => by
          obtain ⟨q, l, k, t, e1, e2, e3⟩ := hprt.2 j h
          exact ⟨q, l, k, t, e1, s2 _ _ e2, e3⟩⟩
        have hx2 : ∀ (j : Nat) (v : V), xs[j]? = some v → ∃ l k t ds, Tri ps j l k t ds ∧ DuT H3 v l k t ds := fun j v hv => by
          obtain ⟨l, k, t, ds, e1, e2⟩ := hx j v hv
          exact ⟨l, k, t, ds, e1, e2.keep (KeepT.of s2)⟩
        have s13 := s1.trans s2
        walk_at "go"
        rw [hti]
        have h0 : i % 3 = 0 ∨ i % 3 = 1 ∨ i % 3 = 2 := by omega
        rcases h0 with h0 | h0 | h0
        · refine ift (by rw [h0]; rfl) ?_
          walk_at "go"
          refine uSl_s hzr ?_
          rw [show cutL row (some 2) none = row.drop 2 from cut_from (i := 2)]
          walk_at "go"
          refine ⟨sz (by simp), fun q2 hq2 => ?_⟩
          walk_at "go"
          have hp : DM.partOf (i % 3) row = some (.ln (row.drop 2)) := by unfold DM.partOf; rw [if_pos hmk, h0]; rfl
          have s4 : Same H3 (upd H3 q2 (.lst [V.str (S (row.drop 2))])) := Same.new hq2
          refine ⟨xs, ps ++ [.ln (row.drop 2)], _, _, _, _, _, _, _, _, rfl, s13.trans s4, hlp, hfn, hne, s4 _ _ hL2, s4 _ _ hF2, plen _, by omega, fun j v hv => ?_, ⟨fun j h => ⟨q2, _, rfl, upd_same, ?_, hdr⟩, fun j h => by rw [plen] at h; omega⟩, mth hp⟩
          · obtain ⟨l, k, t, ds, e1, e2⟩ := hx2 j v hv
            exact ⟨l, k, t, ds, tri_more e1, e2.keep (KeepT.of s4)⟩
          · rw [plen] at h
            rw [show 3 * j = i by omega]
            exact pat _
        · refine iff_ (by rw [h0]; rfl) ?_
          walk_at "go"
          refine ift (by rw [h0]; rfl) ?_
          walk_at "go"
          refine uSl_s hzr ?_
          rw [show cutL row (some 2) none = row.drop 2 from cut_from (i := 2)]
          walk_at "go"
          refine uPart_c (Nat.le_of_lt (small (Nat.le_trans hdr (by decide)))) fun p hp => ?_
          refine rd_gtup (.of upd_same) rfl ?_
          walk_at "go"
          have hpo : DM.partOf (i % 3) row = (match TL.par [32] [] (row.drop 2) with
            | some (kd, tx) => if DM.wordOk kd = true then some (DM.Pt.kt kd tx) else none
            | none => none) := by rw [h0] at hmk ⊢; unfold DM.partOf; exact if_pos hmk
          cases hpar : TL.par [32] [] (row.drop 2) with
          | none =>
            rw [show (parC 32 (row.drop 2)).2.1 = [] by unfold parC; rw [hpar]]
            refine ift (by simp) ?_
            walk_at "go"
            refine ift rfl ?_
            walk_at "go"
            exact ret (by rw [hpo, hpar]) _ (s13.trans (Same.new hp))
          | some uv =>
            obtain ⟨kd, ty⟩ := uv
            have hkl := par_len hpar
            rw [show (parC 32 (row.drop 2)).2.1 = [32] by unfold parC; rw [hpar], show (parC 32 (row.drop 2)).1 = kd by unfold parC; rw [hpar], show (parC 32 (row.drop 2)).2.2 = ty by unfold parC; rw [hpar]]
            simp only [List.length_nil, Nat.zero_add] at hkl
            refine iff_ (by simp) ?_
            walk_at "go"
            refine ⟨kd, rfl, by omega, fun H4 s4 => ?_⟩
            walk_at "go"
            have s34 : Same H3 H4 := (Same.new hp).trans s4
            cases hwk : DM.wordOk kd with
            | false =>
              refine ift rfl ?_
              walk_at "go"
              exact ret (by rw [hpo, hpar]; simp [hwk]) _ (s13.trans s34)
            | true =>
              refine iff_ rfl ?_
              obtain ⟨q, l, e1, e2, e3, e4⟩ := hprt2.1 (i / 3) (by omega)
              subst e1
              walk_at "go"
              refine ⟨sz (by simp), fun q3 hq3 => ?_⟩
              walk_at "go"
              have s45 : Same H4 (upd H4 q3 (.lst [V.str (S kd), .str (S ty)])) := Same.new hq3
              refine uAdd_l (s45 _ _ (s34 _ _ e2)) upd_same (sz (by simp)) fun q4 hq4 => ?_
              walk_at "go"
              have s36 := s34.trans (s45.trans (Same.new (o := .lst ([V.str (S l)] ++ [V.str (S kd), V.str (S ty)])) hq4))
              have hp' : DM.partOf (i % 3) row = some (.kt kd ty) := by rw [hpo, hpar]; simp [hwk]
              refine ⟨xs, ps ++ [.kt kd ty], _, _, _, _, _, _, _, _, rfl, s13.trans s36, hlp, hfn, hne, s36 _ _ hL2, s36 _ _ hF2, plen _, by omega, fun j v hv => ?_, ⟨fun j h => by rw [plen] at h; omega, fun j h => ⟨q4, l, kd, ty, rfl, upd_same, ?_, ?_, hwk, e4, by omega, by omega⟩⟩, mth hp'⟩
              · obtain ⟨l, k, t, ds, e1, e2⟩ := hx2 j v hv
                exact ⟨l, k, t, ds, tri_more e1, e2.keep (KeepT.of s36)⟩
              · rw [plen] at h
                rw [show j = i / 3 by omega]
                exact pbe _ e3
              · rw [plen] at h
                rw [show 3 * j + 1 = i by omega]
                exact pat _
        · refine iff_ (by rw [h0]; rfl) ?_
          walk_at "go"
          refine iff_ (by rw [h0]; rfl) ?_
          walk_at "go"
          refine uSl_s hzr ?_
          rw [show cutL row (some 2) none = row.drop 2 from cut_from (i := 2)]
          walk_at "go"
          have hpo : DM.partOf (i % 3) row = (match DM.rd (row.drop 2) with
            | some (.t ds) => some (DM.Pt.dt ds)
            | _ => none) := by rw [h0] at hmk ⊢; unfold DM.partOf; exact if_pos hmk
          refine ⟨row.drop 2, rfl, (Nat.le_trans hdr (by decide)), fun d hd H4 p u s4 hpn hp hu => ?_, fun hd H4 p s4 hpn hp => ?_⟩
          · walk_at "go"
            refine ⟨sz (by simp), fun q3 hq3 => ?_⟩
            walk_at "go"
            have hqp : p ≠ q3 := fun e => by rw [← e, hp] at hq3; cases hq3
            have s45 : Same H4 (upd H4 q3 (.lst [])) := Same.new hq3
            refine uEq_l0 (sl (s45 _ _ hp)) (sl upd_same) ?_
            walk_at "go"
            refine iff_ rfl ?_
            walk_at "go"
            refine uIx_l (sl (s45 _ _ hp)) at_0 ?_
            walk_at "go"
            have s15 := s13.trans (s4.trans s45)
            cases hu with
            | s v =>
              refine uIsi_D (.str _) (b := false) rfl ?_
              walk_at "go"
              refine ift rfl ?_
              walk_at "go"
              exact ret (by rw [hpo, hd]) _ s15
            | i v =>
              refine uIsi_D (.int _) (b := false) rfl ?_
              walk_at "go"
              refine ift rfl ?_
              walk_at "go"
              exact ret (by rw [hpo, hd]) _ s15
            | @t a dvs ds ha hds =>
              refine uIsi_ty (tyx_t (.of (s45 _ _ ha))) (b := true) rfl ?_
              walk_at "go"
              refine iff_ rfl ?_
              obtain ⟨q, l, k, t, e1, e2, e3, e4, e5, e6, e7, e8⟩ := hprt2.2 (i / 3) (by omega)
              subst e1
              walk_at "go"
              have s35 := s4.trans s45
              generalize upd H4 q3 (HO.lst []) = H5 at s45 s35 s15
              have hF5 := s35 _ _ hF2
              refine ⟨ty_l (sl hF5), ?_⟩
              walk_at "go"
              refine uAdd_l (s35 _ _ e2) (s45 _ _ hp) (sz (by simp)) fun q4 hq4 => ?_
              walk_at "go"
              refine uTup_l (sl upd_same) fun q5 hq5 => ?_
              have s56 : Same H5 (upd (upd H5 q4 (.lst ([V.str (S l), .str (S k), .str (S t)] ++ [.ref a]))) q5 (.tup ([V.str (S l), .str (S k), .str (S t)] ++ [.ref a]))) := (Same.new hq4).trans (Same.new hq5)
              have hF6 := s56 _ _ hF5
              walk_at "go"
              refine ap_l hF6 (small (by omega)) ?_
              walk_at "go"
              have hsz := DM.rd_sz hd
              rw [DM.dsz] at hsz
              have hp' : DM.partOf (i % 3) row = some (.dt ds) := by rw [hpo, hd]
              have kl0 := KeepL.lst (o := .lst (xs ++ [.ref q5])) hF6
              have k36 := (KeepL.of (s35.trans s56)).trans kl0
              have k46 := (KeepL.of (s45.trans s56)).trans kl0
              refine ⟨xs ++ [.ref q5], ps ++ [.dt ds], _, _, _, _, _, _, _, _, rfl, Same.put (s15.trans s56) hfn, hlp, hfn, hne, ?_, upd_same, plen _, by rw [List.length_append, hxl]; simp; omega, fun j v hv => ?_, ⟨fun j h => by rw [plen] at h; omega, fun j h => by rw [plen] at h; omega⟩, mth hp'⟩
              · rw [upd_ne hne]
                exact (s35.trans s56) _ _ hL2
              · by_cases hj : j < xs.length
                · rw [List.getElem?_append_left hj] at hv
                  obtain ⟨l', k', t', ds', g1, g2⟩ := hx2 j v hv
                  exact ⟨l', k', t', ds', tri_more g1, g2.keep k36.t⟩
                · rw [List.getElem?_append_right (by omega)] at hv
                  have hjq : j = i / 3 := by
                    have := (List.getElem?_eq_some_iff.mp hv).1
                    simp at this
                    omega
                  subst hjq
                  rw [hxl, Nat.sub_self] at hv
                  cases hv
                  refine ⟨l, k, t, ds, ⟨pbe _ e3, pbe _ e4, e5, by rw [show 3 * (i / 3) + 2 = i by omega]; exact pat _, e6, e7, e8, by omega⟩, q5, a, dvs, rfl, kl0 _ _ upd_same (fun _ z => nomatch z), k46.t _ _ ha, hds.keep k46.t⟩
          · walk_at "go"
            refine ⟨sz (by simp), fun q3 hq3 => ?_⟩
            walk_at "go"
            have s45 : Same H4 (upd H4 q3 (.lst [])) := Same.new hq3
            refine uEq_l0 (sl (s45 _ _ hp)) (sl upd_same) ?_
            walk_at "go"
            refine ift rfl ?_
            walk_at "go"
            refine ift rfl ?_
            walk_at "go"
            exact ret (by rw [hpo, hd]) _ (s13.trans (s4.trans s45))
    · rintro σ H1 ⟨xs, ps, o3, o4, o5, o6, o7, o8, o9, o10, rfl, s1, _, _, _, hL1, hF1, hpl, hxl, hx, hprt, hm⟩
      rw [List.drop_of_length_le (Nat.le_refl _)] at hm
      have hm' : DM.scanD 0 (rowsOf tx).dropLast = .inr ps := by rw [hm]; simp [DM.scanD, DM.addP]
      obtain ⟨last, hlast⟩ : ∃ last, rowsOf tx = (rowsOf tx).dropLast ++ [last] := ⟨_, (List.dropLast_concat_getLast hrn).symm⟩
      have hgl : (rowsOf tx).getLast? = some last := by rw [hlast]; exact List.getLast?_concat
      have hd := dres_r hm'
      rw [hgl] at hd
      have hrp' : 1 ≤ (rowsOf tx).length := hrp
      have hbad : ¬ (last = [] ∧ ps.length % 3 = 0) → Q (.int ((rowsOf tx).length : Nat)) H1 := fun hn =>
        kN _ (by rw [hd, if_neg (fun z => hn ⟨Option.some.inj z.1, z.2⟩)]) _ s1
      walk_at "go"
      refine uIx_l (v := .str (S last)) (sl hL1) ?_ ?_
      · rw [hlast]
        simp only [txts, List.map_append]
        exact atI_last _ _
      walk_at "go"
      refine ifd (fun he => ?_) (fun hne' => ?_)
      · walk_at "go"
        refine uLen_l (sl hL1) ?_
        walk_at "go"
        refine uMod_i (by decide) ?_
        walk_at "go"
        rw [List.length_map]
        refine ifd (fun h3 => ?_) (fun h3 => ?_)
        · walk_at "go"
          exact kS ps (by rw [hd, if_pos ⟨congrArg some he, by omega⟩]) _ fl s1 ⟨xs, hF1, by omega, by omega, hx⟩
        · walk_at "go"
          refine uLen_l (sl hL1) ?_
          rw [List.length_map]
          exact hbad (fun z => h3 (by omega))
      · walk_at "go"
        refine iff_ rfl ?_
        walk_at "go"
        refine uLen_l (sl hL1) ?_
        rw [List.length_map]
        exact hbad (fun z => hne' z.1)
end
theorem op_eqRp {X : Cx} {n : Nat} (F : Fnm X.prog X.w X.K X.mg X.base (CP X.K) "__eq__" n P_Reply___eq__ (spEq (RpEq X.K))) (hr : Room n X.A) : OpR X (compareOp .Eq) (rEqG (DIns (CP X.K) (RpEq X.K))) := by
  obtain ⟨fd, F, M, hb⟩ := F
  exact op_eqG (rcG_ins F M.at_ M.fn hb passL) hr
mutual
theorem pl_pd {H : Hp} : ∀ {v : V} {d : DM.D}, DT H v d → pl (pd d) = true
  | _, _, .s w => by rw [pd, pl]
  | _, _, .i z => by rw [pd, pl]
  | _, _, .t h a => by rw [pd, pl]; exact pls_pds a
theorem pls_pds {H : Hp} : ∀ {v : List V} {d : List DM.D}, DTs H v d → pls (pds d) = true
  | _, _, .nil => by rw [pds, pls]
  | _, _, .cons h a => by rw [pds, pls, pl_pd h, pls_pds a]; rfl
end
def spFits (K : PySem.W.Frag) : Sp := fun vs H Q _ => (∃ n : Nat, vs = [.str (S ([60] ++ rowMsg n ++ [62])), .int (n : Nat)] ∧ n ≤ 1000000 ∧ ∀ H', Same H H' → Q (.bl true) H') ∨
  (∃ (t p : Addr) (ps : List DM.Pt), vs = [.ref t, .ref p] ∧ DrAt K H t ps ∧ DuAt H p ps ∧ ∀ H', Same H H' → Q (.bl true) H')
section
variable {P : Program} {w : World} {K : PySem.W.Frag} {mg : Str → Option Value} {base : Heap}
theorem ok__law_fits (T : Txt K mg) (look : PySem.W.nsIn K cStatics digName = some none) (F_Reply___init__ : Fnd P w K mg base (CP K) "__init__" 1 P_Reply___init__ (rpD K) (spRInit K))
    (F_Reply___eq__ : Fnm P w K mg base (CP K) "__eq__" 2 P_Reply___eq__ (spEq (RpEq K))) : Fnn P w K mg base "_law_fits" 3 P__law_fits (spFits K) := by
  refine mkFnn T.d__law_fits T.g__law_fits sc__law_fits (fun _ _ _ _ _ _ us hl => match us, hl with | [_, _], _ => rfl) (fun vs H Q E h => ?_) (fun cdv A outer s H vs Q E hr h => ⟨_, ((pss_cons (ps_if (pt_val (pe_callB (kC (K := K) rIsi call_isi rfl) rfl T.f_isinstance boot_isinstance (pa_cons (pv 1) (pa_cons (pe_bltn (v := .ty "int") rfl T.f_int boot_int rfl) pa_nil)))) (pss_one (ps_ret (pe_cmpR (kOp (K := K) uEq (op_uEq hr) rfl) (pv 0) (pe_op (kOp (K := K) uAdd op_uAdd rfl) (pe_op (kOp (K := K) uAdd op_uAdd rfl) (pe_S [60, 114, 111, 119, 32] (by decide +kernel)) (pe_callTy (cr_uStr rfl look) rfl T.f_str boot_str (pa_cons (pv 1) pa_nil))) (pe_S [62] (by decide +kernel))) (nomark _)))) pss_nil)
      (pss_cons (ps_if (PW.pt (pw_or (pt_not (pt_val (pe_callB (kC (K := K) rIsi call_isi rfl) rfl T.f_isinstance boot_isinstance (pa_cons (pv 0) (pa_cons (pe_bltn (v := .ty "list") rfl T.f_list boot_list rfl) pa_nil))))) (pw_or1 (pt_cmpR (kOp (K := K) uNe (op_uNe hr) rfl) (pe_callB (kC (K := K) uLen cr_uLen rfl) rfl T.f_len boot_len (pa_cons (pv 0) pa_nil)) (pe_callB (kC (K := K) uLen cr_uLen rfl) rfl T.f_len boot_len (pa_cons (pv 1) pa_nil)) (nomark _))))) (pss_one (ps_ret pe_bl)) pss_nil)
      (pss_one (ps_ret (pe_callB (kC (K := K) rAll (cr_all rfl) rfl) rfl T.f_all boot_all (pa_cons (pe_lc (own := [("k", 2)]) (g := gName 2) (tt := tYes) rfl sc__law_fits.nd (pi_range1 rfl T.f_range (pa_cons (pe_callB (kC (K := K) uLen cr_uLen rfl) rfl T.f_len boot_len (pa_cons (pv 1) pa_nil)) pa_nil)) (blkOk_by (N := N__law_fits) (sc := defScope s__law_fits) (by decide +kernel)) (fun _ _ _ _ _ => pg_name (i := 2) sc__law_fits.nd rfl (Or.inl rfl)) (fun _ _ _ _ _ => pts_nil) (fun _ _ _ _ _ => (pe_and (pe_cmpR (kOp (K := K) uEq (op_uEq hr) rfl) (pe_ix (kIx (K := K) rIx ix_u rfl) (pe_ix (kIx (K := K) rIx ix_u rfl) (pv 0) (pv 2) (fun _ _ => rfl)) pe_int (fun _ _ => rfl)) (pe_ix (kIx (K := K) rIx ix_u rfl) (pe_ix (kIx (K := K) rIx ix_u rfl) (pv 1) (pv 2) (fun _ _ => rfl)) pe_int (fun _ _ => rfl)) (nomark _)) (pe_and (pe_cmpR (kOp (K := K) (fun K => rEqG (DIns (CP K) (RpEq K))) (op_eqRp F_Reply___eq__ (hr.mono (by omega))) rfl) (pe_ix (kIx (K := K) rIx ix_u rfl) (pe_ix (kIx (K := K) rIx ix_u rfl) (pv 0) (pv 2) (fun _ _ => rfl)) pe_int (fun _ _ => rfl)) (pe_mkD 2 T.mk_Reply F_Reply___init__ (Nat.le_of_ble_eq_true rfl) (hr.mono (by omega)) rfl T.g_Reply (pa_cons (pe_ix (kIx (K := K) rIx ix_u rfl) (pe_ix (kIx (K := K) rIx ix_u rfl) (pv 1) (pv 2) (fun _ _ => rfl)) pe_int (fun _ _ => rfl)) (pa_cons (pe_ix (kIx (K := K) rIx ix_u rfl) (pe_ix (kIx (K := K) rIx ix_u rfl) (pv 1) (pv 2) (fun _ _ => rfl)) pe_int (fun _ _ => rfl)) (pa_cons (pe_ix (kIx (K := K) rIx ix_u rfl) (pe_ix (kIx (K := K) rIx ix_u rfl) (pv 1) (pv 2) (fun _ _ => rfl)) pe_int (fun _ _ => rfl)) pa_nil)))) (nomark _)) (pe_one (pe_cmpR (kOp (K := K) uEq (op_uEq hr) rfl) (pe_callB (kC (K := K) uLen cr_uLen rfl) rfl T.f_len boot_len (pa_cons (pe_ix (kIx (K := K) rIx ix_u rfl) (pv 0) (pv 2) (fun _ _ => rfl)) pa_nil)) pe_int (nomark _))))))) pa_nil))))))), ?_⟩)
  · rcases h with ⟨n, rfl, _⟩ | ⟨t, p, ps, rfl, _⟩ <;> rfl
  · rcases h with ⟨n, rfl, hn, k⟩ | ⟨t, p, ps, rfl, hT, hD, k⟩
    · rw [show start N__law_fits [V.str (S ([60] ++ rowMsg n ++ [62])), V.int (n : Nat)] = [some (V.str (S ([60] ++ rowMsg n ++ [62]))), some (V.int (n : Nat)), none] from rfl]
      walk_at "go"
      refine uIsi_D (.int _) (b := true) rfl ?_
      walk_at "go"
      refine ift rfl ?_
      walk_at "go"
      have hnl := num_len hn
      refine uStr_i (Nat.lt_of_le_of_lt (m := 10 ^ 7) (by omega) (Nat.pow_lt_pow_right (by decide) (by decide))) ?_
      walk_at "go"
      refine uAdd_s (Nat.le_of_lt (small (by simp only [List.length_cons, List.length_nil]; omega))) ?_
      walk_at "go"
      refine uAdd_s (Nat.le_of_lt (small (by simp only [List.length_append, List.length_cons, List.length_nil]; omega))) ?_
      walk_at "go"
      rw [decide_eq_true (by simp [rowMsg])]
      exact k _ (.refl _)
    · rw [show start N__law_fits [V.ref t, V.ref p] = [some (V.ref t), some (V.ref p), none] from rfl]
      obtain ⟨xs, ht, hxl, hxz, hx⟩ := hT
      obtain ⟨ys, hp, hyl, hyz, hy⟩ := hD
      have hxy : xs.length = ys.length := by omega
      walk_at "go"
      refine uIsi_ty (tyx_l (sl hp)) (b := false) rfl ?_
      walk_at "go"
      refine iff_ rfl ?_
      walk_at "go"
      refine uIsi_ty (tyx_l (sl ht)) (b := true) rfl ?_
      walk_at "go"
      refine iff_ rfl ?_
      walk_at "go"
      refine uLen_l (sl ht) ?_
      walk_at "go"
      refine uLen_l (sl hp) ?_
      walk_at "go"
      refine iff_ (by rw [hxy]; simp) ?_
      walk_at "go"
      refine uLen_l (sl hp) ?_
      walk_at "go"
      refine ⟨_, rfl, by omega, by omega, fun D hD => ?_⟩
      rw [Int.toNat_natCast]
      refine lc_it walk_range (fun q H' => Same H H' ∧ H' D = some (.lst (List.replicate q (.bl true)))) ⟨Same.new hD, upd_same⟩ (fun _ _ _ _ => True.intro) ?_ ?_
      · rintro q x H2 H3 hq ⟨s2, hd⟩ ⟨rfl, rfl⟩
        obtain ⟨vx, hvx⟩ : ∃ v, xs[q]? = some v := ⟨_, List.getElem?_eq_getElem (by omega)⟩
        obtain ⟨vy, hvy⟩ : ∃ v, ys[q]? = some v := ⟨_, List.getElem?_eq_getElem hq⟩
        obtain ⟨l, kd, ty, ds, t1, a, r, d, dvs, rfl, ha, ⟨dx, hr1⟩, hdd, hds⟩ := hx q vx hvx
        obtain ⟨l', kd', ty', ds', t2, b, e, evs, rfl, hb, hee, hes⟩ := hy q vy hvy
        obtain ⟨u1, u2, u3, u4, u5, u6, u7, u8⟩ := t1
        obtain ⟨w1, w2, w3, w4, _⟩ := t2
        rw [u1] at w1
        rw [u2] at w2
        rw [u4] at w4
        cases w1
        cases w2
        cases w4
        have at_ : ∀ {zs : List V} {v : V}, zs[q]? = some v → atI zs (0 + (q : Int)) = some v := fun h => by rw [Int.zero_add]; exact atI_nat h
        refine ⟨rfl, rd_yes (ift rfl ?_)⟩
        refine rd_st (σ' := [some (V.ref t), some (V.ref p), some (V.int (0 + (q : Int)))]) rfl ?_
        have ht2 := s2 _ _ ht
        have hp2 := s2 _ _ hp
        have ha2 := s2 _ _ ha
        have hb2 := s2 _ _ hb
        walk_at "go"
        refine uIx_l (sl ht2) (at_ hvx) ?_
        walk_at "go"
        refine uIx_t (.of ha2) (v := .str (S l)) rfl ?_
        walk_at "go"
        refine uIx_l (sl hp2) (at_ hvy) ?_
        walk_at "go"
        refine uIx_t (.of hb2) (v := .str (S l)) rfl ?_
        walk_at "go"
        refine ift (by simp) ?_
        walk_at "go"
        refine uIx_l (sl ht2) (at_ hvx) ?_
        walk_at "go"
        refine uIx_t (.of ha2) (v := .ref r) rfl ?_
        walk_at "go"
        refine rd_mkD ?_
        walk_at "go"
        refine uIx_l (sl hp2) (at_ hvy) ?_
        walk_at "go"
        refine uIx_t (.of hb2) (v := .str (S kd)) rfl ?_
        walk_at "go"
        refine uIx_l (sl hp2) (at_ hvy) ?_
        walk_at "go"
        refine uIx_t (.of hb2) (v := .str (S ty)) rfl ?_
        walk_at "go"
        refine uIx_l (sl hp2) (at_ hvy) ?_
        walk_at "go"
        refine uIx_t (.of hb2) (v := .ref e) rfl ?_
        walk_at "go"
        intro r2 dy hr0 hdy hne2
        have sr : Same H3 (upd (upd H3 dy (.own r2)) r2 (.ins (CP K) dy (rpF (.str (S kd)) (.str (S ty)) (.ref e)))) := (Same.new hdy).trans (Same.new (by rw [upd_ne (Ne.symm hne2)]; exact hr0))
        refine ⟨r2, dy, .str (S kd), .str (S ty), .ref e, rfl, upd_same, rfl, ?_⟩
        rw [upd_upd]
        have s3 := s2.trans sr
        have hw12 : kd.length ≤ 12 := by
          cases kd with
          | nil => simp
          | cons c r =>
            have h2 : (DM.letter c && ((c :: r).all DM.wsign && decide ((c :: r).length ≤ 12))) = true := u3
            simp only [Bool.and_eq_true, decide_eq_true_eq] at h2
            exact h2.2.2
        have hde : DT (upd (upd H3 dy (.own r2)) r2 (.ins (CP K) dy (rpF (.str (S kd)) (.str (S ty)) (.ref e)))) (.ref e) (.t ds) := .t (s3 _ _ hee) (hes.keep (KeepT.of s3))
        have hdd2 : DT (upd (upd H3 dy (.own r2)) r2 (.ins (CP K) dy (rpF (.str (S kd)) (.str (S ty)) (.ref e)))) (.ref d) (.t ds) := .t (s3 _ _ hdd) (hds.keep (KeepT.of s3))
        have hmz := msz_pd (.t ds)
        rw [DM.dsz] at hmz
        walk_at "go"
        refine ⟨⟨r, r2, dx, dy, _, _, rfl, rfl, s3 _ _ hr1, upd_same, .str (S kd), .str (S ty), .ref d, .str (S kd), .str (S ty), .ref e, _, _, pd (.t ds), ⟨dx, s3 _ _ hr1⟩, ⟨dy, upd_same⟩, .str _, .str _, .str _, .str _, hdd2.dp, hde.dp, rfl, rfl, pl_pd hdd2, ?_⟩, fun H5 s5 => ?_⟩
        · show 2 + (1 + (1 + (S kd).length) + (1 + (1 + (S ty).length) + (1 + msz (pd (.t ds)) + 0))) ≤ 1000000
          rw [S_len, S_len]
          omega
        · walk_at "go"
          have s6 : Same H3 H5 := sr.trans s5
          refine ift rfl ?_
          walk_at "go"
          refine uIx_l (sl (s6 _ _ ht2)) (at_ hvx) ?_
          walk_at "go"
          refine uLen_t (.of (s6 _ _ ha2)) ?_
          walk_at "go"
          refine ⟨_, s6 _ _ hd, small (by rw [List.length_replicate]; omega), Same.put (s2.trans s6) hD, ?_⟩
          rw [upd_same, List.replicate_succ']
          rfl
      · rintro H2 ⟨s2, hd⟩
        walk_at "go"
        refine uAll_l (bs := List.replicate ys.length true) (sl (by rw [List.map_replicate]; exact hd)) ?_
        rw [show (List.replicate ys.length true).all id = true by simp]
        exact k _ s2
end
theorem DrawAt.kl {H H' : Hp} {cl d : Addr} (h : DrawAt H cl d) (b : But d H H') : KeepL H H' := fun a o e n => b a o e fun z => by
  obtain ⟨i, c, m, ns, hd, _⟩ := h
  rw [z, hd] at e
  cases e
  exact n _ rfl
theorem DrAt.keep {K : PySem.W.Frag} {H H' : Hp} {p : Addr} {ps : List DM.Pt} (s : Same H H') (h : DrAt K H p ps) : DrAt K H' p ps := by
  obtain ⟨xs, h1, h2, h3, h4⟩ := h
  refine ⟨xs, s _ _ h1, h2, h3, fun j v hv => ?_⟩
  obtain ⟨l, k, t, ds, a, b⟩ := h4 j v hv
  exact ⟨l, k, t, ds, a, b.keep (KeepL.of s)⟩
section
variable {K : PySem.W.Frag} {H : Hp} {Q : VK} {E E1 E2 : XK}
/-- what is told of a text is what is due -/
theorem fits_ok {tx : List Nat} (hz : tx.length ≤ 39990) (q : ∀ H', Same H H' → Q (.bl true) H') : spTold K [.int 1, .str (S tx)] H (fun v H1 => spDue [.str (S tx)] H1 (fun u H2 => spFits K [v, u] H2 Q E) E1) E2 := by
  refine .inr ⟨_, rfl, .inr ⟨tx, rfl, hz, fun n hn H1 s1 => ?_, fun ps hp H1 p s1 hD => ?_⟩⟩
  · refine ⟨tx, rfl, hz, fun m hm H2 s2 => ?_, (fun ps hp => by rw [hn] at hp; cases hp)⟩
    rw [hn] at hm
    cases hm
    have h1 := dres_le hn
    have h2 := rows_len tx
    exact .inl ⟨n, rfl, by omega, fun H3 s3 => q _ (s1.trans (s2.trans s3))⟩
  · refine ⟨tx, rfl, hz, (fun m hm => by rw [hp] at hm; cases hm), fun ps' hp' H2 p' s2 hU => ?_⟩
    rw [hp] at hp'
    cases hp'
    exact .inr ⟨p, p', ps, rfl, hD.keep s2, hU, fun H3 s3 => q _ (s1.trans (s2.trans s3))⟩
/-- the reading of _law_fits(_law_told(1, x), _law_due(x)) -/
theorem rd_fits {tx : List Nat} {i : Nat} {σ : L2.St} {F E3 E4 : L2.St → XK} (hv : σ[i]? = some (some (.str (S tx)))) (hz : tx.length ≤ 39990) (q : ∀ H', Same H H' → Q (.bl true) H') :
    tCallS (spFits K) F (tCons (tCallS (spTold K) E3 (tCons (tC (.int 1)) (tCons (tVar i) tNil))) (tCons (tCallS spDue E4 (tCons (tVar i) tNil)) tNil)) σ H Q := by
  have g : ∀ {H' : Hp} {R : VK}, R (.str (S tx)) H' → tVar i σ H' R := fun h => ⟨_, hv, h⟩
  refine rd_fn (rd_cons (rd_fn (rd_cons (rd_c (rd_cons (g (rd_nil ?_)))))))
  refine .inr ⟨_, rfl, .inr ⟨tx, rfl, hz, fun n hn H1 s1 => ?_, fun ps hp H1 p s1 hD => ?_⟩⟩
  · refine rd_cons (rd_fn (rd_cons (g (rd_nil ?_))))
    refine ⟨tx, rfl, hz, fun m hm H2 s2 => ?_, (fun ps hp => by rw [hn] at hp; cases hp)⟩
    rw [hn] at hm
    cases hm
    have h1 := dres_le hn
    have h2 := rows_len tx
    exact rd_nil (.inl ⟨n, rfl, by omega, fun H3 s3 => q _ (s1.trans (s2.trans s3))⟩)
  · refine rd_cons (rd_fn (rd_cons (g (rd_nil ?_))))
    refine ⟨tx, rfl, hz, (fun m hm => by rw [hp] at hm; cases hm), fun ps' hp' H2 p' s2 hU => ?_⟩
    rw [hp] at hp'
    cases hp'
    exact rd_nil (.inr ⟨p, p', ps, rfl, hD.keep s2, hU, fun H3 s3 => q _ (s1.trans (s2.trans s3))⟩)
theorem cutL_len (z : List Nat) (lo hi : Option Int) : (cutL z lo hi).length ≤ z.length := by
  unfold cutL
  rw [List.length_take, List.length_drop]
  omega
theorem pick_s {l : Addr} {ls : List (List Nat)} {i : Int} (h : SqL K H l (ls.map fun x => V.str (S x))) (h0 : 0 ≤ i) (h1 : i < ls.length) (q : ∀ x ∈ ls, Q (.str (S x)) H) : rIx K (.ref l) (.int i) H Q := by
  obtain ⟨j, rfl⟩ : ∃ j : Nat, i = (j : Int) := ⟨i.toNat, by omega⟩
  have hj : j < ls.length := by omega
  refine uIx_l h (atI_nat (by rw [List.getElem?_map, List.getElem?_eq_getElem hj]; rfl)) (q _ (List.getElem_mem hj))
end
/-! ### the entries that the law makes -/
inductive EnAll (K : PySem.W.Frag) (H : Hp) : List Addr → List DM.En → Prop
  | nil : EnAll K H [] []
  | cons {t : Addr} {ts : List Addr} {e : DM.En} {es : List DM.En} : TrAt K H (.ref t) e.l e.k e.t e.ds → EnAll K H ts es → EnAll K H (t :: ts) (e :: es)
section
variable {K : PySem.W.Frag} {H H' : Hp}
theorem EnAll.keep (k : KeepL H H') : ∀ {ts : List Addr} {es : List DM.En}, EnAll K H ts es → EnAll K H' ts es
  | _, _, .nil => .nil
  | _, _, .cons h r => .cons (h.keep k) (EnAll.keep k r)
theorem EnAll.len : ∀ {ts : List Addr} {es : List DM.En}, EnAll K H ts es → ts.length = es.length
  | _, _, .nil => rfl
  | _, _, .cons _ h => congrArg Nat.succ h.len
theorem EnAll.snoc {t : Addr} {e : DM.En} (q : TrAt K H (.ref t) e.l e.k e.t e.ds) : ∀ {ts : List Addr} {es : List DM.En}, EnAll K H ts es → EnAll K H (ts ++ [t]) (es ++ [e])
  | _, _, .nil => .cons q .nil
  | _, _, .cons h r => .cons h (EnAll.snoc q r)
/-- an entry of few signs -/
def EnS (e : DM.En) : Prop := e.Ok ∧ e.l.length ≤ 10 ∧ e.t.length ≤ 10 ∧ e.a.length ≤ 130 ∧ DM.dszs e.ds ≤ 140
def enTx (es : List DM.En) : List Nat := ((es.flatMap DM.En.rows).map fun r => r ++ [10]).flatten
theorem enTx_snoc (es : List DM.En) (e : DM.En) : enTx (es ++ [e]) = enTx es ++ [62, 32] ++ e.l ++ [10, 61, 32] ++ e.k ++ [32] ++ e.t ++ [10, 35, 32] ++ e.a ++ [10] := by
  simp [enTx, DM.En.rows]
theorem word12 {w : List Nat} (h : DM.wordOk w = true) : w.length ≤ 12 := by
  cases w with
  | nil => simp
  | cons c r =>
    have h2 : (DM.letter c && ((c :: r).all DM.wsign && decide ((c :: r).length ≤ 12))) = true := h
    simp only [Bool.and_eq_true, decide_eq_true_eq] at h2
    exact h2.2.2
theorem enTx_len : ∀ {es : List DM.En}, (∀ e ∈ es, EnS e) → (enTx es).length ≤ 200 * es.length
  | [], _ => by simp [enTx]
  | e :: es, h => by
    obtain ⟨⟨_, hw, _⟩, h2, h3, h4, _⟩ := h e (by simp)
    have hw := word12 hw
    have ih := enTx_len (es := es) fun x hx => h x (by simp [hx])
    have e1 : enTx (e :: es) = ((e.rows).map fun r => r ++ [10]).flatten ++ enTx es := by simp [enTx]
    rw [e1, List.length_append, List.length_cons]
    have e2 : (((e.rows).map fun r => r ++ [10]).flatten).length ≤ 200 := by
      simp [DM.En.rows]
      omega
    omega
theorem EnAll.ent : ∀ {ts : List Addr} {es : List DM.En}, EnAll K H ts es → (∀ e ∈ es, EnS e) → EntAll K H (ts.map V.ref) (es.map fun e => some (e.rows.map fun r => r ++ [10]))
  | _, _, .nil, _ => .nil
  | _, _, .cons (e := e) h r, hs => by
    obtain ⟨⟨h1, hw, h2, h3⟩, h4, h5, h6, h7⟩ := hs e (by simp)
    refine .cons ?_ (EnAll.ent r fun x hx => hs x (by simp [hx]))
    obtain ⟨a, q, d, dvs, ea, ha, hr, hd, hds⟩ := h
    cases ea
    have hdt : DT H (.ref d) (.t e.ds) := .t hd hds
    have hw12 := word12 hw
    have hz := msz_pd (.t e.ds)
    rw [DM.dsz] at hz
    have hx : repTx e.l (.str (S e.k)) (.str (S e.t)) (pd (.t e.ds)) = some (e.rows.map fun r => r ++ [10]) := by
      unfold repTx
      have t1 : wordP (.str (S e.k)) = true := hw
      have t2 : textP (.str (S e.t)) = true := by
        show (!decide (10 ∈ e.t)) = true
        simpa using h2
      have t3 : isTup (pd (.t e.ds)) = true := by rw [pd]; rfl
      rw [t1, t2, t3, toD_pd, h3]
      simp [DM.En.rows, strL]
    show EntAt K H _ (some (e.rows.map fun r => r ++ [10]))
    rw [← hx]
    refine .rep (.of ha) (by omega) h1 hr (.str _) (show (S e.k).length ≤ 1000000 by rw [S_len]; omega) (.str _) (show (S e.t).length ≤ 1000000 by rw [S_len]; omega) hdt.dp (by omega) fun a' ha' => ?_
    rw [toD_pd, h3] at ha'
    cases ha'
    omega
theorem seqO_en : ∀ es : List DM.En, seqO (es.map fun e => some (e.rows.map fun r => r ++ [10])) = some ((es.flatMap DM.En.rows).map fun r => r ++ [10])
  | [] => rfl
  | e :: es => by
    rw [List.map_cons, seqO, seqO_en es]
    simp
end
/-- data of the law's own -/
theorem gds_txt {ds : List DM.D} (h : ∀ d ∈ ds, DM.gd 3 d) (hl : ds.length ≤ 2) : ∃ a, DM.wr (.t ds) 1 = some a ∧ a.length ≤ 130 ∧ DM.dszs ds ≤ 140 := by
  obtain ⟨⟨a, h1, h2⟩, h3⟩ := DM.gds_wr ds 3 2 h (by decide)
  have e1 := Nat.mul_le_mul_right (DM.tl 3 + 1) hl
  have e2 := Nat.mul_le_mul_right (DM.gz 3 + 1) hl
  have f1 : DM.tl 3 = 60 := rfl
  have f2 : DM.gz 3 = 68 := rfl
  rw [f1] at e1 h2
  rw [f2] at e2 h3
  refine ⟨91 :: (a ++ [93]), by rw [DM.wr, if_pos (by decide), h1]; rfl, ?_, by omega⟩
  simp
  omega
section
variable {K : PySem.W.Frag} {H H2 : Hp} {Q : VK}
theorem Same.new' {p : Addr} {o : HO} (hp : H p = none) (e : upd H p o = H2) : Same H H2 := e ▸ Same.new hp
theorem get_new {p : Addr} {o : HO} (e : upd H p o = H2) : H2 p = some o := e ▸ upd_same
theorem Same.rp {r dx : Addr} {o o' : HO} (hr : H r = none) (hd : H dx = none) (ne : dx ≠ r) (e : upd (upd H dx o) r o' = H2) : Same H H2 := e ▸ ((Same.new hd).trans (Same.new (by rw [upd_ne (Ne.symm ne)]; exact hr)))
theorem lenS_s {l : List Nat} (h : l.length ≤ 1000) : lenS (.str (S l)) := by
  show (S l).length ≤ 1000000
  rw [S_len]
  omega
/-! ### entries that are none -/
theorem rep_bad {a r : Addr} {l : List Nat} {k t v : V} {dk dt dv : PyData} (h1 : SqT K H a [.str (S l), .ref r]) (h2 : l.length ≤ 1000000) (h3 : 10 ∉ l) (h4 : RpAt K H r k t v) (h5 : Dp K H k dk) (h6 : lenS dk) (h7 : Dp K H t dt) (h8 : lenS dt) (h9 : Dp K H v dv) (h10 : msz dv ≤ 1000000)
    (hw : ∀ a, DM.wr (toD dv) 1 = some a → a.length ≤ 1000000) (e : repTx l dk dt dv = none) : EntAt K H (.ref a) none := e ▸ .rep h1 h2 h3 h4 h5 h6 h7 h8 h9 h10 hw
theorem rep_w {l : List Nat} {dk dt dv : PyData} (h : wordP dk = false) : repTx l dk dt dv = none := by
  unfold repTx
  rw [h]
  rfl
theorem rep_t {l : List Nat} {dk dt dv : PyData} (h : textP dt = false) : repTx l dk dt dv = none := by
  unfold repTx
  rw [h, Bool.false_and, Bool.and_false]
  rfl
theorem rep_v {l : List Nat} {dk dt dv : PyData} (h : isTup dv = false) : repTx l dk dt dv = none := by
  unfold repTx
  rw [h, Bool.and_false, Bool.and_false]
  rfl
theorem rep_n {l : List Nat} {dk dt dv : PyData} (h : DM.wr (toD dv) 1 = none) : repTx l dk dt dv = none := by
  unfold repTx
  rw [h]
  split <;> rfl
theorem wr_e : DM.wr (toD (.tuple [])) 1 = some [91, 93] := by
  rw [toD, toDs, DM.wr, if_pos (by decide), DM.wrs]
  rfl
theorem wr_x : DM.wr (toD (.tuple [.none])) 1 = none := by
  rw [toD, toDs, toDs, toD, DM.wr, if_pos (by decide), DM.wrs, DM.wr]
  rfl
/-- two lists of three texts -/
theorem ne_three {p q : Addr} {x : List Nat} (hp : H p = some (.lst (List.replicate 3 (.str (S x))))) (hq : H q = some (.lst (List.replicate 3 (.str (S x))))) (hc : PyData.eqv (.list (List.replicate 3 (.str (S x)))) (.list (List.replicate 3 (.str (S x)))) = true) (hs : SeqAt.shaped (.list (List.replicate 3 (.str (S x)))) = true) :
    (Q (.bl false) H → uNe K (.ref p) (.ref q) H Q) ∧ (Q (.bl true) H → uEq K (.ref p) (.ref q) H Q) := by
  have d3 : DpAll K H (List.replicate 3 (.str (S x))) (List.replicate 3 (.str (S x))) := .cons (.str _) (.cons (.str _) (.cons (.str _) .nil))
  exact ⟨fun k => uNe_d (.lst (sl hp) d3) (.lst (sl hq) d3) hs hs (by rw [hc]; exact k), fun k => uEq_d (.lst (sl hp) d3) (.lst (sl hq) d3) hs hs (by rw [hc]; exact k)⟩
theorem told0_bad {g b : V} {l : Addr} {og : Option (List (List Nat))} {E : XK} (hl : SqL K H l [g, b]) (hg : EntAt K H g og) (hb : EntAt K H b none) (q : ∀ (H' : Hp) (m : List Nat), m.length ≤ 100 → Same H H' → Q (.str (S ([60] ++ m ++ [62]))) H') : spTold K [.int 0, .ref l] H Q E := by
  have e : seqO [og, none] = none := by
    cases og <;> rfl
  exact .inl ⟨_, rfl, .inr ⟨l, _, _, rfl, hl, .cons hg (.cons hb .nil), (Nat.le_of_ble_eq_true rfl), (fun ls hls => by rw [e] at hls; cases hls), fun _ => q⟩⟩
theorem told_x {v : V} {n : String} {E : XK} (h1 : TyX K H v (.type n)) (h2 : kitB n "str" = some false) (q : ∀ H', Same H H' → Q (.str (S ([60] ++ noText ++ [62]))) H') : spTold K [.int 1, v] H Q E := .inr ⟨v, rfl, .inl ⟨n, h1, h2, q⟩⟩
theorem told0_x {v : V} {n : String} {E : XK} (h1 : TyX K H v (.type n)) (h2 : kitB n "list" = some false) (q : ∀ (H' : Hp) (m : List Nat), m.length ≤ 100 → Same H H' → Q (.str (S ([60] ++ m ++ [62]))) H') : spTold K [.int 0, v] H Q E := .inl ⟨v, rfl, .inl ⟨n, h1, h2, q⟩⟩
theorem told0_nil {l : Addr} {E : XK} (h : SqL K H l []) (q : ∀ H', Same H H' → Q (.str (S [])) H') : spTold K [.int 0, .ref l] H Q E := .inl ⟨_, rfl, .inr ⟨l, [], [], rfl, h, .nil, (Nat.le_of_ble_eq_true rfl), (fun ls hls => by cases hls; exact ⟨by decide, q⟩), (fun hn => by cases hn)⟩⟩
theorem told1_nil {E : XK} (q : ∀ H' p, Same H H' → H' p = some (.lst []) → Q (.ref p) H') : spTold K [.int 1, .str (S [])] H Q E := by
  have e : DM.dres (rowsOf []) = .inr [] := by
    rw [show rowsOf [] = [[]] from TL.spl_nil _ _ _]
    rfl
  refine .inr ⟨_, rfl, .inr ⟨[], rfl, by decide, (fun n hn => by rw [e] at hn; cases hn), fun ps hp H' p s hD => ?_⟩⟩
  rw [e] at hp
  cases hp
  obtain ⟨xs, h1, h2, _⟩ := hD
  have : xs = [] := List.eq_nil_of_length_eq_zero (by simp at h2; omega)
  subst this
  exact q _ _ s h1
theorem cut1 (m : List Nat) : cutL ([60] ++ m ++ [62]) none (some 1) = [60] := by
  rw [show cutL ([60] ++ m ++ [62]) none (some 1) = ([60] ++ m ++ [62]).take 1 from cut_to (i := 1)]
  rfl
end
local macro_rules
  | `(tactic| walk_at "g1") => `(tactic| with_reducible (first
    | refine rd_v0 ?_ | refine rd_v1 ?_ | refine rd_v2 ?_ | refine rd_v3 ?_ | refine rd_v4 ?_ | refine rd_v5 ?_ | refine rd_v6 ?_ | refine rd_v7 ?_ | refine rd_v8 ?_ | refine rd_v9 ?_ | refine rd_v10 ?_ | refine rd_v11 ?_ | refine rd_v12 ?_ | refine rd_v13 ?_ | refine rd_v14 ?_ | refine rd_v15 ?_ | refine rd_v16 ?_ | refine rd_v17 ?_ | refine rd_v18 ?_
    | refine rd_c ?_ | refine rd_op ?_ | refine rd_un ?_ | refine rd_nil ?_ | refine rd_cons ?_ | refine rd_cb ?_ | refine rd_fn ?_
    | refine rd_test ?_ | refine rd_tB ?_ | refine rd_bl ?_ | refine rd_int ?_ | refine rd_istr ?_ | refine rd_exstr ?_ | refine rd_exstr1 ?_
    | refine rd_and ?_ | refine rd_or ?_ | refine rd_not ?_ | refine rd_andV ?_ | refine rd_orV ?_ | refine rd_notV ?_ | refine rd_chain ?_ | refine rd_ifE ?_
    | refine rd_slice ?_ | refine rd_nopart ?_ | refine rd_part ?_ | refine rd_bm ?_ | refine rd_bm0 ?_ | refine rd_m1 ?_ | refine rd_fld ?_ | refine rd_sfld ?_
    | refine rd_seq ?_ | refine rd_next ?_ | refine rd_brk ?_ | refine rd_cont ?_ | refine rd_asg ?_ | refine rd_drop ?_ | refine rd_ret ?_ | refine rd_retN ?_ | refine rd_ifS ?_
    | refine rd_g0 ?_ | refine rd_g1 ?_ | refine rd_g2 ?_ | refine rd_g3 ?_ | refine rd_g4 ?_ | refine rd_g5 ?_ | refine rd_g6 ?_ | refine rd_g7 ?_ | refine rd_g8 ?_ | refine rd_g9 ?_ | refine rd_g10 ?_ | refine rd_g11 ?_ | refine rd_g12 ?_ | refine rd_g13 ?_ | refine rd_g14 ?_ | refine rd_g15 ?_ | refine rd_g16 ?_ | refine rd_g17 ?_ | refine rd_g18 ?_
    | refine rd_a0 ?_ | refine rd_a1 ?_ | refine rd_a2 ?_ | refine rd_a3 ?_ | refine rd_a4 ?_ | refine rd_a5 ?_ | refine rd_a6 ?_
    | refine rd_for ?_ | refine rd_iList ?_ | refine rd_iTup ?_ | refine rd_iStr ?_ | refine rd_iEnS ?_ | refine rd_rng1 ?_ | refine rd_rng2 ?_ | refine rd_lc ?_ | refine rd_yes ?_
    | refine rd_gcons ?_ | refine rd_gnil ?_ | refine rd_par ?_ | refine rd_two ?_ | refine rd_par3 ?_ | refine rd_three ?_ | refine rd_seti ?_
    | refine rd_tup ?_ | refine rd_lst ?_ | refine rd_mt ?_ | refine rd_mk ?_
    | refine uAdd_i ?_ | refine uSub_i ?_ | refine uNeg_i ?_ | refine uEq_i ?_ | refine uNe_i ?_ | refine uEq_s ?_ | refine uNe_s ?_ | refine uLt_i ?_ | refine uLe_i ?_ | refine uGt_i ?_ | refine uGe_i ?_ | refine uLe_c ?_
    | refine uIsN_v ?_ | refine uNotN_v ?_ | refine uIn_c ?_ | refine uNin_c ?_ | refine uInt_i ?_ | refine ipAdd_i ?_ | refine ipSub_i ?_))
  | `(tactic| walk_at "h1") => `(tactic| with_reducible (first
    | refine rd_v0 ?_ | refine rd_v1 ?_ | refine rd_v2 ?_ | refine rd_v3 ?_ | refine rd_v4 ?_ | refine rd_v5 ?_ | refine rd_v6 ?_ | refine rd_v7 ?_ | refine rd_v8 ?_ | refine rd_v9 ?_ | refine rd_v10 ?_ | refine rd_v11 ?_ | refine rd_v12 ?_ | refine rd_v13 ?_ | refine rd_v14 ?_ | refine rd_v15 ?_ | refine rd_v16 ?_ | refine rd_v17 ?_ | refine rd_v18 ?_
    | refine rd_c ?_ | refine rd_op ?_ | refine rd_un ?_ | refine rd_nil ?_ | refine rd_cons ?_ | refine rd_cb ?_ | refine rd_fn ?_
    | refine rd_test ?_ | refine rd_tB ?_ | refine rd_bl ?_ | refine rd_int ?_ | refine rd_istr ?_ | refine rd_exstr ?_ | refine rd_exstr1 ?_
    | refine rd_and ?_ | refine rd_or ?_ | refine rd_not ?_ | refine rd_andV ?_ | refine rd_orV ?_ | refine rd_notV ?_ | refine rd_chain ?_ | refine rd_ifE ?_
    | refine rd_slice ?_ | refine rd_nopart ?_ | refine rd_part ?_ | refine rd_bm ?_ | refine rd_bm0 ?_ | refine rd_m1 ?_ | refine rd_fld ?_ | refine rd_sfld ?_
    | refine rd_seq ?_ | refine rd_next ?_ | refine rd_brk ?_ | refine rd_cont ?_ | refine rd_asg ?_ | refine rd_drop ?_ | refine rd_ret ?_ | refine rd_retN ?_
    | refine rd_g0 ?_ | refine rd_g1 ?_ | refine rd_g2 ?_ | refine rd_g3 ?_ | refine rd_g4 ?_ | refine rd_g5 ?_ | refine rd_g6 ?_ | refine rd_g7 ?_ | refine rd_g8 ?_ | refine rd_g9 ?_ | refine rd_g10 ?_ | refine rd_g11 ?_ | refine rd_g12 ?_ | refine rd_g13 ?_ | refine rd_g14 ?_ | refine rd_g15 ?_ | refine rd_g16 ?_ | refine rd_g17 ?_ | refine rd_g18 ?_
    | refine rd_a0 ?_ | refine rd_a1 ?_ | refine rd_a2 ?_ | refine rd_a3 ?_ | refine rd_a4 ?_ | refine rd_a5 ?_ | refine rd_a6 ?_
    | refine rd_for ?_ | refine rd_iList ?_ | refine rd_iTup ?_ | refine rd_iStr ?_ | refine rd_iEnS ?_ | refine rd_rng1 ?_ | refine rd_rng2 ?_ | refine rd_lc ?_ | refine rd_yes ?_
    | refine rd_gcons ?_ | refine rd_gnil ?_ | refine rd_par ?_ | refine rd_two ?_ | refine rd_par3 ?_ | refine rd_three ?_ | refine rd_seti ?_
    | refine rd_tup ?_ | refine rd_lst ?_ | refine rd_mt ?_ | refine rd_mk ?_
    | refine uAdd_i ?_ | refine uSub_i ?_ | refine uNeg_i ?_ | refine uEq_i ?_ | refine uNe_i ?_ | refine uEq_s ?_ | refine uNe_s ?_ | refine uLt_i ?_ | refine uLe_i ?_ | refine uGt_i ?_ | refine uGe_i ?_ | refine uLe_c ?_
    | refine uIsN_v ?_ | refine uNotN_v ?_ | refine uIn_c ?_ | refine uNin_c ?_ | refine uInt_i ?_ | refine ipAdd_i ?_ | refine ipSub_i ?_))
  | `(tactic| walk_at "gs") => `(tactic| repeat (walk_at "h1"))
  | `(tactic| walk_at "go") => `(tactic| repeat (walk_at "g1"))
  | `(tactic| walk_at "f1") => `(tactic| with_reducible (first
    | refine rd_v0 ?_ | refine rd_v1 ?_ | refine rd_v2 ?_ | refine rd_v3 ?_ | refine rd_v4 ?_ | refine rd_v5 ?_ | refine rd_v6 ?_ | refine rd_v7 ?_ | refine rd_v8 ?_ | refine rd_v9 ?_ | refine rd_v10 ?_ | refine rd_v11 ?_ | refine rd_v12 ?_ | refine rd_v13 ?_ | refine rd_v14 ?_ | refine rd_v15 ?_ | refine rd_v16 ?_ | refine rd_v17 ?_ | refine rd_v18 ?_
    | refine rd_c ?_ | refine rd_op ?_ | refine rd_un ?_ | refine rd_nil ?_ | refine rd_cons ?_ | refine rd_cb ?_
    | refine rd_test ?_ | refine rd_tB ?_ | refine rd_bl ?_ | refine rd_int ?_ | refine rd_istr ?_ | refine rd_exstr ?_ | refine rd_exstr1 ?_
    | refine rd_and ?_ | refine rd_or ?_ | refine rd_not ?_ | refine rd_andV ?_ | refine rd_orV ?_ | refine rd_notV ?_ | refine rd_chain ?_ | refine rd_ifE ?_
    | refine rd_slice ?_ | refine rd_nopart ?_ | refine rd_part ?_ | refine rd_bm ?_ | refine rd_bm0 ?_ | refine rd_m1 ?_ | refine rd_fld ?_ | refine rd_sfld ?_
    | refine rd_seq ?_ | refine rd_next ?_ | refine rd_brk ?_ | refine rd_cont ?_ | refine rd_asg ?_ | refine rd_drop ?_ | refine rd_ret ?_ | refine rd_retN ?_ | refine rd_ifS ?_
    | refine rd_g0 ?_ | refine rd_g1 ?_ | refine rd_g2 ?_ | refine rd_g3 ?_ | refine rd_g4 ?_ | refine rd_g5 ?_ | refine rd_g6 ?_ | refine rd_g7 ?_ | refine rd_g8 ?_ | refine rd_g9 ?_ | refine rd_g10 ?_ | refine rd_g11 ?_ | refine rd_g12 ?_ | refine rd_g13 ?_ | refine rd_g14 ?_ | refine rd_g15 ?_ | refine rd_g16 ?_ | refine rd_g17 ?_ | refine rd_g18 ?_
    | refine rd_a0 ?_ | refine rd_a1 ?_ | refine rd_a2 ?_ | refine rd_a3 ?_ | refine rd_a4 ?_ | refine rd_a5 ?_ | refine rd_a6 ?_
    | refine rd_for ?_ | refine rd_iList ?_ | refine rd_iTup ?_ | refine rd_iStr ?_ | refine rd_iEnS ?_ | refine rd_rng1 ?_ | refine rd_rng2 ?_ | refine rd_lc ?_ | refine rd_yes ?_
    | refine rd_gcons ?_ | refine rd_gnil ?_ | refine rd_par ?_ | refine rd_two ?_ | refine rd_par3 ?_ | refine rd_three ?_ | refine rd_seti ?_
    | refine rd_tup ?_ | refine rd_lst ?_ | refine rd_mt ?_ | refine rd_mk ?_
    | refine uAdd_i ?_ | refine uSub_i ?_ | refine uNeg_i ?_ | refine uEq_i ?_ | refine uNe_i ?_ | refine uEq_s ?_ | refine uNe_s ?_ | refine uLt_i ?_ | refine uLe_i ?_ | refine uGt_i ?_ | refine uGe_i ?_ | refine uLe_c ?_
    | refine uIsN_v ?_ | refine uNotN_v ?_ | refine uIn_c ?_ | refine uNin_c ?_ | refine uInt_i ?_ | refine ipAdd_i ?_ | refine ipSub_i ?_))
  | `(tactic| walk_at "gf") => `(tactic| repeat (walk_at "f1"))
def spLaw (K : PySem.W.Frag) : Sp := fun vs H Q _ => ∃ (a : Addr) (ns : List Int), vs = [.ref a] ∧ SqL K H a (ns.map V.int) ∧ ns.length ≤ 1000000 ∧ ∀ H', Q (.bl true) H'
/-- the state of the outer loop -/
def OI (a d cl : Addr) (i : Nat) (σ : L2.St) (H' : Hp) : Prop := ∃ o2 o3 o4 o5 o6 o7 o8 o9 o10 o11 o12 o13 o14 : Option V, σ = [some (.ref a), some (.ref d), o2, o3, o4, o5, o6, o7, o8, o9, o10, o11, o12, o13, o14, none, none, none, none] ∧ DrawAt H' cl d
/-- the state of the loop that makes the entries -/
def KI (K : PySem.W.Frag) (a d cl el : Addr) (x2 : V) (i : Nat) (σ : L2.St) (H' : Hp) : Prop := ∃ (ts : List Addr) (es : List DM.En) (o5 o6 o7 o8 o9 o10 o11 o12 o13 o14 : Option V), σ = [some (.ref a), some (.ref d), some x2, some (.ref el), some (.str (S (enTx es))), o5, o6, o7, o8, o9, o10, o11, o12, o13, o14, none, none, none, none] ∧
  DrawAt H' cl d ∧ H' el = some (.lst (ts.map V.ref)) ∧ EnAll K H' ts es ∧ (∀ e ∈ es, EnS e) ∧ es.length = i ∧ el ≠ d ∧ el ≠ cl
section
variable {P : Program} {w : World} {K : PySem.W.Frag} {mg : Str → Option Value} {base : Heap} {A : Around} {fd : FuncData}
theorem ok_law (T : Txt K mg) (look : PySem.W.nsIn K cStatics digName = some none) (D : FunD K "law" "law" (defArgs s_law) (defBody s_law) (defScope s_law) [] [] (He.ga K "law") fd) (hr0 : Room 11 A) (hA : A.guards = some [])
    (F__law_draw : Fnn P w K mg base "_law_draw" 1 P__law_draw (spDraw K)) (F__law_take : Fnn P w K mg base "_law_take" 1 P__law_take spTake) (F__law_data : Fnn P w K mg base "_law_data" 5 P__law_data (spDataP 4))
    (F_write_data : FnZ famM P w K mg base "write_data" 3 P_write_data (spWD K (CM K))) (F_Reply___init__ : Fnd P w K mg base (CP K) "__init__" 1 P_Reply___init__ (rpD K) (spRInit K))
    (F__law_told : Fnn P w K mg base "_law_told" 7 P__law_told (spTold K)) (F__law_due : Fnn P w K mg base "_law_due" 6 P__law_due spDue) (F__law_fits : Fnn P w K mg base "_law_fits" 3 P__law_fits (spFits K)) :
    RunAt P w K mg base A (He.ga K "law") fd P_law (spLaw K) := by
  refine runAt_of D sc_law hr0 (fun vs H Q E h => ?_) (fun cdv outer s H vs Q E hr h => ?_)
  · obtain ⟨a, ns, rfl, _⟩ := h
    rfl
  refine ⟨_, ((pss_cons (ps_set (i := 1) sc_law.nd rfl (by first | exact Or.inl rfl | exact Or.inr rfl) (pe_fn F__law_draw (hr.mono (by omega)) rfl (pa_tk (takes_of rfl rfl rfl rfl)) (pa_cons (pv 0) pa_nil)))
      (pss_cons (ps_for (passes_of rfl) rfl (pi_range1 rfl T.f_range (pa_cons pe_int pa_nil)) (pg_name (i := 2) sc_law.nd rfl (by first | exact Or.inl rfl | exact Or.inr rfl)) (pss_cons (ps_par (i := 3) (j := 4) rfl sc_law.nd rfl rfl (by decide) rfl rfl (pa_cons (pe_lst pa_nil) (pa_cons (pe_S [] (by decide +kernel)) pa_nil)) rfl)
      (pss_cons (ps_for (passes_of rfl) rfl (pi_range1 rfl T.f_range (pa_cons (pe_fn F__law_take (hr.mono (by omega)) rfl (pa_tk (takes_of rfl rfl rfl rfl)) (pa_cons (pv 1) (pa_cons pe_int pa_nil))) pa_nil)) (pg_name (i := 5) sc_law.nd rfl (by first | exact Or.inl rfl | exact Or.inr rfl)) (pss_cons (ps_par3 (i := 6) (j := 7) (l := 8) rfl sc_law.nd rfl rfl rfl (by decide) (by decide) (by decide) rfl rfl rfl (pa_cons (pe_ix (kIx (K := K) rIx ix_u rfl) (pe_lst (pa_cons (pe_S [] (by decide +kernel)) (pa_cons (pe_S [114, 101, 99, 107, 111, 110] (by decide +kernel)) (pa_cons (pe_S [35, 32, 97] (by decide +kernel)) (pa_cons (pe_S [62, 32, 120] (by decide +kernel)) pa_nil))))) (pe_fn F__law_take (hr.mono (by omega)) rfl (pa_tk (takes_of rfl rfl rfl rfl)) (pa_cons (pv 1) (pa_cons pe_int pa_nil))) (fun _ _ => rfl)) (pa_cons (pe_ix (kIx (K := K) rIx ix_u rfl) (pe_lst (pa_cons (pe_S [97] (by decide +kernel)) (pa_cons (pe_S [101, 114, 114, 111, 114] (by decide +kernel)) (pa_cons (pe_S [120, 57] (by decide +kernel)) pa_nil)))) (pe_fn F__law_take (hr.mono (by omega)) rfl (pa_tk (takes_of rfl rfl rfl rfl)) (pa_cons (pv 1) (pa_cons pe_int pa_nil))) (fun _ _ => rfl)) (pa_cons (pe_ix (kIx (K := K) rIx ix_u rfl) (pe_lst (pa_cons (pe_S [] (by decide +kernel)) (pa_cons (pe_S [110, 111] (by decide +kernel)) (pa_cons (pe_S [32, 49, 32, 50] (by decide +kernel)) pa_nil)))) (pe_fn F__law_take (hr.mono (by omega)) rfl (pa_tk (takes_of rfl rfl rfl rfl)) (pa_cons (pv 1) (pa_cons pe_int pa_nil))) (fun _ _ => rfl)) pa_nil))) rfl)
      (pss_cons (ps_set (i := 9) sc_law.nd rfl (by first | exact Or.inl rfl | exact Or.inr rfl) (pe_callTy (kC (K := K) uTup cr_uTup rfl) rfl T.f_tuple boot_tuple (pa_cons (pe_lc (own := [("i", 10)]) (g := gName 10) (tt := tYes) rfl sc_law.nd (pi_range1 rfl T.f_range (pa_cons (pe_fn F__law_take (hr.mono (by omega)) rfl (pa_tk (takes_of rfl rfl rfl rfl)) (pa_cons (pv 1) (pa_cons pe_int pa_nil))) pa_nil)) (blkOk_by (N := N_law) (sc := defScope s_law) (by decide +kernel)) (fun _ _ _ _ _ => pg_name (i := 10) sc_law.nd rfl (Or.inl rfl)) (fun _ _ _ _ _ => pts_nil) (fun _ _ _ _ _ => (pe_fn F__law_data (hr.mono (by omega)) rfl pa_0 (pa_cons (pv 1) (pa_cons pe_int pa_nil))))) pa_nil)))
      (pss_cons (ps_expr (pe_bmK (K := K) PySem.F.plainAttrs_list PySem.F.slot_list_append PySem.F.type_list_append mt_append (pv 3) (pa_cons (pe_tup (pa_cons (pv 6) (pa_cons (pe_mkD 2 T.mk_Reply F_Reply___init__ (Nat.le_of_ble_eq_true rfl) (hr.mono (by omega)) rfl T.g_Reply (pa_cons (pv 7) (pa_cons (pv 8) (pa_cons (pv 9) pa_nil)))) pa_nil))) pa_nil) rfl))
      (pss_one (ps_set (i := 4) sc_law.nd rfl (by first | exact Or.inl rfl | exact Or.inr rfl) (pe_op (kOp (K := K) uAdd op_uAdd rfl) (pe_op (kOp (K := K) uAdd op_uAdd rfl) (pe_op (kOp (K := K) uAdd op_uAdd rfl) (pe_op (kOp (K := K) uAdd op_uAdd rfl) (pe_op (kOp (K := K) uAdd op_uAdd rfl) (pe_op (kOp (K := K) uAdd op_uAdd rfl) (pe_op (kOp (K := K) uAdd op_uAdd rfl) (pe_op (kOp (K := K) uAdd op_uAdd rfl) (pe_op (kOp (K := K) uAdd op_uAdd rfl) (pv 4) (pe_S [62, 32] (by decide +kernel))) (pv 6)) (pe_S [10, 61, 32] (by decide +kernel))) (pv 7)) (pe_S [32] (by decide +kernel))) (pv 8)) (pe_S [10, 35, 32] (by decide +kernel))) (pe_fnZ F_write_data (hr.mono (by omega)) rfl pa_0Z (pa_cons (pv 9) pa_nil))) (pe_S [10] (by decide +kernel)))))))))
      (pss_cons (ps_set (i := 11) sc_law.nd rfl (by first | exact Or.inl rfl | exact Or.inr rfl) (pe_op (kOp (K := K) uAdd op_uAdd rfl) (pv 3) (pe_lst pa_nil)))
      (pss_cons (ps_if (PW.pt (pw_or (pt_cmpR (kOp (K := K) uNe (op_uNe hr) rfl) (pe_fn F__law_told (hr.mono (by omega)) rfl (pa_tk (takes_of rfl rfl rfl rfl)) (pa_cons pe_int (pa_cons (pv 3) pa_nil))) (pv 4) (nomark _)) (pw_or (pt_not (pt_val (pe_fn F__law_fits (hr.mono (by omega)) rfl (pa_tk (takes_of rfl rfl rfl rfl)) (pa_cons (pe_fn F__law_told (hr.mono (by omega)) rfl (pa_tk (takes_of rfl rfl rfl rfl)) (pa_cons pe_int (pa_cons (pv 4) pa_nil))) (pa_cons (pe_fn F__law_due (hr.mono (by omega)) rfl (pa_tk (takes_of rfl rfl rfl rfl)) (pa_cons (pv 4) pa_nil)) pa_nil))))) (pw_or (pt_cmpR (kOp (K := K) uNe (op_uNe hr) rfl) (pe_callB (kC (K := K) uLen cr_uLen rfl) rfl T.f_len boot_len (pa_cons (pe_fn F__law_told (hr.mono (by omega)) rfl (pa_tk (takes_of rfl rfl rfl rfl)) (pa_cons pe_int (pa_cons (pv 4) pa_nil))) pa_nil)) (pe_callB (kC (K := K) uLen cr_uLen rfl) rfl T.f_len boot_len (pa_cons (pv 3) pa_nil)) (nomark _)) (pw_or1 (pt_cmpR (kOp (K := K) rNeSame (op_neSame hr.units0) rfl) (pv 3) (pv 11) (nomark _))))))) (pss_one (ps_ret pe_bl)) pss_nil)
      (pss_one (ps_for (passes_of rfl) rfl (pi_range1 rfl T.f_range (pa_cons pe_int pa_nil)) (pg_name (i := 12) sc_law.nd rfl (by first | exact Or.inl rfl | exact Or.inr rfl)) (pss_cons (ps_par (i := 10) (j := 13) rfl sc_law.nd rfl rfl (by decide) rfl rfl (pa_cons (pe_fn F__law_take (hr.mono (by omega)) rfl (pa_tk (takes_of rfl rfl rfl rfl)) (pa_cons (pv 1) (pa_cons (pe_op (kOp (K := K) uAdd op_uAdd rfl) (pe_callB (kC (K := K) uLen cr_uLen rfl) rfl T.f_len boot_len (pa_cons (pv 4) pa_nil)) pe_int) pa_nil))) (pa_cons (pe_ix (kIx (K := K) rIx ix_u rfl) (pe_lst (pa_cons (pe_S [120] (by decide +kernel)) (pa_cons (pe_S [10] (by decide +kernel)) (pa_cons (pe_S [32] (by decide +kernel)) (pa_cons (pe_S [62] (by decide +kernel)) (pa_cons (pe_S [61] (by decide +kernel)) (pa_cons (pe_S [35] (by decide +kernel)) (pa_cons (pe_S [91] (by decide +kernel)) (pa_cons (pe_S [65] (by decide +kernel)) pa_nil))))))))) (pe_fn F__law_take (hr.mono (by omega)) rfl (pa_tk (takes_of rfl rfl rfl rfl)) (pa_cons (pv 1) (pa_cons pe_int pa_nil))) (fun _ _ => rfl)) pa_nil)) rfl)
      (pss_one (ps_for (passes_of rfl) rfl (pi_listK (K := K) (pe_lst (pa_cons (pe_op (kOp (K := K) uAdd op_uAdd rfl) (pe_op (kOp (K := K) uAdd op_uAdd rfl) (pe_slice (kSl (K := K) uSl sl_u rfl) (pv 4) po_none (po_some (pv 10))) (pv 13)) (pe_slice (kSl (K := K) uSl sl_u rfl) (pv 4) (po_some (pv 10)) po_none)) (pa_cons (pe_op (kOp (K := K) uAdd op_uAdd rfl) (pe_slice (kSl (K := K) uSl sl_u rfl) (pv 4) po_none (po_some (pv 10))) (pe_slice (kSl (K := K) uSl sl_u rfl) (pv 4) (po_some (pe_op (kOp (K := K) uAdd op_uAdd rfl) (pv 10) pe_int)) po_none)) (pa_cons (pe_slice (kSl (K := K) uSl sl_u rfl) (pv 4) po_none (po_some (pv 10))) (pa_cons (pe_op (kOp (K := K) uAdd op_uAdd rfl) (pv 4) (pe_S [62, 32] (by decide +kernel))) (pa_cons (pe_op (kOp (K := K) uAdd op_uAdd rfl) (pv 4) (pe_S [10] (by decide +kernel))) pa_nil)))))) rfl) (pg_name (i := 14) sc_law.nd rfl (by first | exact Or.inl rfl | exact Or.inr rfl)) (pss_one (ps_if (pt_not (pt_val (pe_fn F__law_fits (hr.mono (by omega)) rfl (pa_tk (takes_of rfl rfl rfl rfl)) (pa_cons (pe_fn F__law_told (hr.mono (by omega)) rfl (pa_tk (takes_of rfl rfl rfl rfl)) (pa_cons pe_int (pa_cons (pv 14) pa_nil))) (pa_cons (pe_fn F__law_due (hr.mono (by omega)) rfl (pa_tk (takes_of rfl rfl rfl rfl)) (pa_cons (pv 14) pa_nil)) pa_nil))))) (pss_one (ps_ret pe_bl)) pss_nil))))))))))))
      (pss_cons (ps_set (i := 15) sc_law.nd rfl (by first | exact Or.inl rfl | exact Or.inr rfl) (pe_tup (pa_cons (pe_S [] (by decide +kernel)) (pa_cons (pe_mkD 0 T.mk_Reply F_Reply___init__ (Nat.le_of_ble_eq_true rfl) (hr.mono (by omega)) rfl T.g_Reply (pa_cons (pe_S [100, 111, 110, 101] (by decide +kernel)) pa_nil)) pa_nil))))
      (pss_cons (ps_set (i := 16) sc_law.nd rfl (by first | exact Or.inl rfl | exact Or.inr rfl) (pe_lst (pa_cons pe_non (pa_cons (pe_tup (pa_cons (pe_S [] (by decide +kernel)) pa_nil)) (pa_cons (pe_lst (pa_cons (pe_S [] (by decide +kernel)) (pa_cons (pe_mkD 0 T.mk_Reply F_Reply___init__ (Nat.le_of_ble_eq_true rfl) (hr.mono (by omega)) rfl T.g_Reply (pa_cons (pe_S [97] (by decide +kernel)) pa_nil)) pa_nil))) (pa_cons (pe_tup (pa_cons pe_non (pa_cons (pe_mkD 0 T.mk_Reply F_Reply___init__ (Nat.le_of_ble_eq_true rfl) (hr.mono (by omega)) rfl T.g_Reply (pa_cons (pe_S [97] (by decide +kernel)) pa_nil)) pa_nil))) (pa_cons (pe_tup (pa_cons (pe_S [97, 10] (by decide +kernel)) (pa_cons (pe_mkD 0 T.mk_Reply F_Reply___init__ (Nat.le_of_ble_eq_true rfl) (hr.mono (by omega)) rfl T.g_Reply (pa_cons (pe_S [97] (by decide +kernel)) pa_nil)) pa_nil))) (pa_cons (pe_tup (pa_cons (pe_S [] (by decide +kernel)) (pa_cons (pe_tup (pa_cons (pe_S [97] (by decide +kernel)) (pa_cons (pe_S [] (by decide +kernel)) (pa_cons (pe_tup pa_nil) pa_nil)))) pa_nil))) (pa_cons (pe_tup (pa_cons (pe_S [] (by decide +kernel)) (pa_cons (pe_mkD 0 T.mk_Reply F_Reply___init__ (Nat.le_of_ble_eq_true rfl) (hr.mono (by omega)) rfl T.g_Reply (pa_cons (pe_S [65] (by decide +kernel)) pa_nil)) pa_nil))) pa_nil)))))))))
      (pss_cons (ps_set (i := 16) sc_law.nd rfl (by first | exact Or.inl rfl | exact Or.inr rfl) (pe_op (kOp (K := K) uAdd op_uAdd rfl) (pv 16) (pe_lst (pa_cons (pe_tup (pa_cons (pe_S [] (by decide +kernel)) (pa_cons (pe_mkD 1 T.mk_Reply F_Reply___init__ (Nat.le_of_ble_eq_true rfl) (hr.mono (by omega)) rfl T.g_Reply (pa_cons (pe_S [97] (by decide +kernel)) (pa_cons pe_non pa_nil))) pa_nil))) (pa_cons (pe_tup (pa_cons (pe_S [] (by decide +kernel)) (pa_cons (pe_mkD 1 T.mk_Reply F_Reply___init__ (Nat.le_of_ble_eq_true rfl) (hr.mono (by omega)) rfl T.g_Reply (pa_cons (pe_S [97] (by decide +kernel)) (pa_cons (pe_S [10] (by decide +kernel)) pa_nil))) pa_nil))) (pa_cons (pe_tup (pa_cons (pe_S [] (by decide +kernel)) (pa_cons (pe_mkD 2 T.mk_Reply F_Reply___init__ (Nat.le_of_ble_eq_true rfl) (hr.mono (by omega)) rfl T.g_Reply (pa_cons (pe_S [97] (by decide +kernel)) (pa_cons (pe_S [] (by decide +kernel)) (pa_cons (pe_lst pa_nil) pa_nil)))) pa_nil))) (pa_cons (pe_tup (pa_cons (pe_S [] (by decide +kernel)) (pa_cons (pe_mkD 2 T.mk_Reply F_Reply___init__ (Nat.le_of_ble_eq_true rfl) (hr.mono (by omega)) rfl T.g_Reply (pa_cons (pe_S [97] (by decide +kernel)) (pa_cons (pe_S [] (by decide +kernel)) (pa_cons (pe_tup (pa_cons pe_non pa_nil)) pa_nil)))) pa_nil))) pa_nil)))))))
      (pss_cons (ps_if (PW.pt (pw_or (pt_val (pe_callB (kC (K := K) rAny (cr_any rfl) rfl) rfl T.f_any boot_any (pa_cons (pe_lc (own := [("bad", 17)]) (g := gName 17) (tt := tYes) rfl sc_law.nd (pi_listK (K := K) (pv 16) rfl) (blkOk_by (N := N_law) (sc := defScope s_law) (by decide +kernel)) (fun _ _ _ _ _ => pg_name (i := 17) sc_law.nd rfl (Or.inl rfl)) (fun _ _ _ _ _ => pts_nil) (fun _ _ _ _ _ => (pe_cmpR (kOp (K := K) uNe (op_uNe hr) rfl) (pe_slice (kSl (K := K) uSl sl_u rfl) (pe_fn F__law_told (hr.mono (by omega)) rfl pa_0 (pa_cons pe_int (pa_cons (pe_lst (pa_cons (pv 15) (pa_cons (pv 17) pa_nil))) pa_nil))) po_none (po_some pe_int)) (pe_S [60] (by decide +kernel)) (nomark _)))) pa_nil))) (pw_or1 (pt_cmpR (kOp (K := K) uNe (op_uNe hr) rfl) (pe_lc (own := [("value", 18)]) (g := gName 18) (tt := tYes) rfl sc_law.nd (pi_listK (K := K) (pe_lst (pa_cons pe_non (pa_cons pe_int (pa_cons (pe_tup pa_nil) pa_nil)))) rfl) (blkOk_by (N := N_law) (sc := defScope s_law) (by decide +kernel)) (fun _ _ _ _ _ => pg_name (i := 18) sc_law.nd rfl (Or.inl rfl)) (fun _ _ _ _ _ => pts_nil) (fun _ _ _ _ _ => (pe_slice (kSl (K := K) uSl sl_u rfl) (pe_fn F__law_told (hr.mono (by omega)) rfl pa_0 (pa_cons pe_int (pa_cons (pv 18) pa_nil))) po_none (po_some pe_int)))) (pe_op op_uMul (pe_lst (pa_cons (pe_S [60] (by decide +kernel)) pa_nil)) pe_int) (nomark _))))) (pss_one (ps_ret pe_bl)) pss_nil)
      (pss_cons (ps_if (PW.pt (pw_or (pt_cmpR (kOp (K := K) uNe (op_uNe hr) rfl) (pe_fn F__law_told (hr.mono (by omega)) rfl (pa_tk (takes_of rfl rfl rfl rfl)) (pa_cons pe_int (pa_cons (pe_lst pa_nil) pa_nil))) (pe_S [] (by decide +kernel)) (nomark _)) (pw_or1 (pt_cmpR (kOp (K := K) uNe (op_uNe hr) rfl) (pe_fn F__law_told (hr.mono (by omega)) rfl (pa_tk (takes_of rfl rfl rfl rfl)) (pa_cons pe_int (pa_cons (pe_S [] (by decide +kernel)) pa_nil))) (pe_lst pa_nil) (nomark _))))) (pss_one (ps_ret pe_bl)) pss_nil)
      (pss_one (ps_ret (pe_cmpR (kOp (K := K) uEq (op_uEq hr) rfl) (pe_lc (own := [("value", 18)]) (g := gName 18) (tt := tYes) rfl sc_law.nd (pi_listK (K := K) (pe_lst (pa_cons pe_non (pa_cons pe_int (pa_cons (pe_lst (pa_cons (pe_S [] (by decide +kernel)) pa_nil)) pa_nil)))) rfl) (blkOk_by (N := N_law) (sc := defScope s_law) (by decide +kernel)) (fun _ _ _ _ _ => pg_name (i := 18) sc_law.nd rfl (Or.inl rfl)) (fun _ _ _ _ _ => pts_nil) (fun _ _ _ _ _ => (pe_fn F__law_told (hr.mono (by omega)) rfl pa_0 (pa_cons pe_int (pa_cons (pv 18) pa_nil))))) (pe_op op_uMul (pe_lst (pa_cons (pe_S [60, 110, 111, 32, 116, 101, 120, 116, 62] (by decide +kernel)) pa_nil)) pe_int) (nomark _)))))))))))), ?_⟩
  obtain ⟨a, ns, rfl, hS, hl, k⟩ := h
  rw [show start N_law [V.ref a] = [some (V.ref a), none, none, none, none, none, none, none, none, none, none, none, none, none, none, none, none, none, none] from rfl]
  walk_at "go"
  refine ⟨a, ns, rfl, hS, hl, fun H1 cl d s1 hdn hd => ?_⟩
  walk_at "go"
  refine ⟨_, rfl, by decide, by decide, ?_⟩
  refine fo_it walk_range (OI a d cl) ⟨_, _, _, _, _, _, _, _, _, _, _, _, _, rfl, hd⟩ (fun _ _ _ _ _ => True.intro) ?_ ?_
  · rintro i x σ H2 H3 hi ⟨o2, o3, o4, o5, o6, o7, o8, o9, o10, o11, o12, o13, o14, rfl, hd2⟩ ⟨rfl, rfl⟩
    walk_at "go"
    refine ⟨sz (by simp), fun el hel => ?_⟩
    walk_at "go"
    have d3 := hd2.keep (Same.new (o := .lst []) hel)
    have nd : ∀ {H' : Hp} {p : Addr}, DrawAt H' cl d → H' p = none → p ≠ d ∧ p ≠ cl := fun {H' p} h hp => by
      obtain ⟨i, c, m, ns, h1, h2, _⟩ := h
      exact ⟨(fun e => by rw [e, h1] at hp; cases hp), (fun e => by rw [e, h2] at hp; cases hp)⟩
    obtain ⟨hed, hec⟩ := nd hd2 hel
    refine ⟨cl, d, 4, rfl, d3, by decide, by decide, fun H4 q b4 d4 hq0 hq4 => ?_⟩
    walk_at "go"
    refine ⟨q, rfl, by omega, by omega, ?_⟩
    have hel4 := b4 _ _ (upd_same (H := H3)) hed
    refine fo_it walk_range (KI K a d cl el (.int (0 + (i : Int)))) ⟨[], [], _, _, _, _, _, _, _, _, _, _, rfl, d4, hel4, .nil, (fun e he => by cases he), rfl, hed, hec⟩ (fun _ _ _ _ _ => True.intro) ?_ ?_
    · rintro j x σ H5 H6 hj ⟨ts, es, o5, o6, o7, o8, o9, o10, o11, o12, o13, o14, rfl, d5, he5, hA5, hS5, hlen, _, _⟩ ⟨rfl, rfl⟩
      have hj4 : j < q.toNat := hj
      have htl := enTx_len hS5
      walk_at "go"
      refine ⟨sz (by simp), fun l1 hl1 => ?_⟩
      walk_at "go"
      have n1 := (nd d5 hl1).1
      refine ⟨cl, d, 4, rfl, d5.keep (Same.new hl1), by decide, by decide, fun H7 q1 b7' d7 h10 h14 => ?_⟩
      walk_at "go"
      have b7 := (But.of (d := d) (Same.new hl1)).trans b7'
      refine pick_s (ls := [[], [114, 101, 99, 107, 111, 110], [35, 32, 97], [62, 32, 120]]) (sl (b7' _ _ upd_same n1)) h10 h14 fun lx hlx => ?_
      have plx : 10 ∉ lx ∧ lx.length ≤ 6 := (by decide : ∀ x ∈ [[], [114, 101, 99, 107, 111, 110], [35, 32, 97], [62, 32, 120]], 10 ∉ x ∧ x.length ≤ 6) lx hlx
      clear hlx
      walk_at "go"
      refine ⟨sz (by simp), fun l2 hl2 => ?_⟩
      walk_at "go"
      have n2 := (nd d7 hl2).1
      refine ⟨cl, d, 3, rfl, d7.keep (Same.new hl2), by decide, by decide, fun H8 q2 b8' d8 h20 h24 => ?_⟩
      walk_at "go"
      have b8 := b7.trans ((But.of (d := d) (Same.new hl2)).trans b8')
      refine pick_s (ls := [[97], [101, 114, 114, 111, 114], [120, 57]]) (sl (b8' _ _ upd_same n2)) h20 h24 fun kx hkx => ?_
      have pkx : DM.wordOk kx = true ∧ kx.length ≤ 6 := (by decide : ∀ x ∈ [[97], [101, 114, 114, 111, 114], [120, 57]], DM.wordOk x = true ∧ x.length ≤ 6) kx hkx
      clear hkx
      walk_at "go"
      refine ⟨sz (by simp), fun l3 hl3 => ?_⟩
      walk_at "go"
      have n3 := (nd d8 hl3).1
      refine ⟨cl, d, 3, rfl, d8.keep (Same.new hl3), by decide, by decide, fun H9 q3 b9' d9 h30 h34 => ?_⟩
      walk_at "go"
      have b9 := b8.trans ((But.of (d := d) (Same.new hl3)).trans b9')
      refine pick_s (ls := [[], [110, 111], [32, 49, 32, 50]]) (sl (b9' _ _ upd_same n3)) h30 h34 fun mx hmx => ?_
      have pmx : 10 ∉ mx ∧ mx.length ≤ 6 := (by decide : ∀ x ∈ [[], [110, 111], [32, 49, 32, 50]], 10 ∉ x ∧ x.length ≤ 6) mx hmx
      clear hmx
      walk_at "go"
      refine ⟨cl, d, 3, rfl, d9, by decide, by decide, fun H10 q4 b10' d10 h40 h44 => ?_⟩
      walk_at "go"
      have b10 := b9.trans b10'
      refine ⟨q4, rfl, by omega, by omega, fun Dl hD => ?_⟩
      have hDd := (nd d10 hD).1
      have hDc := (nd d10 hD).2
      refine lc_it walk_range (fun z H' => ∃ (vs : List V) (ds : List DM.D), vs.length = z ∧ H' Dl = some (.lst vs) ∧ DTs H' vs ds ∧ (∀ e ∈ ds, DM.gd 3 e) ∧ DrawAt H' cl d ∧ But d H10 H') ⟨[], [], rfl, upd_same, .nil, (fun e he => by cases he), d10.keep (Same.new hD), But.of (Same.new hD)⟩ (fun _ _ _ _ => True.intro) ?_ ?_
      · rintro z x H11 H12 hz ⟨vs, ds, hvl, hv, hds, hg, d11, b11⟩ ⟨rfl, rfl⟩
        have hz : z < q4.toNat := hz
        refine ⟨rfl, rd_yes (ift rfl ?_)⟩
        refine rd_st (σ' := [some (.ref a), some (.ref d), some (.int (0 + (i : Int))), some (.ref el), some (.str (S (enTx es))), some (.int (0 + (j : Int))), some (.str (S lx)), some (.str (S kx)), some (.str (S mx)), o9, some (.int (0 + (z : Int))), o11, o12, o13, o14, none, none, none, none]) rfl ?_
        walk_at "go"
        refine ⟨cl, d, rfl, d11, fun H13 v dd b13 d13 hv13 hg13 => ?_⟩
        have kt := d11.kt b13
        have hv2 : H13 Dl = some (.lst vs) := b13 _ _ hv hDd
        refine ⟨vs, hv2, small (by omega), vs ++ [v], ds ++ [dd], by simp [hvl], upd_same, ((hds.keep kt).snoc hv13).keep (KeepT.lst hv2), fun e he => ?_, ?_, ?_⟩
        · rcases List.mem_append.mp he with y | y
          · exact hg e y
          · rw [List.mem_singleton.mp y]; exact hg13
        · obtain ⟨i5, c5, m5, ns5, e1, e2, e3⟩ := d13
          exact ⟨i5, c5, m5, ns5, by rw [upd_ne (Ne.symm hDd)]; exact e1, by rw [upd_ne (Ne.symm hDc)]; exact e2, e3⟩
        · intro b o hb hn
          rw [upd_ne (fun y => by rw [y, hD] at hb; cases hb)]
          exact b13 b o (b11 b o hb hn) hn
      rintro H11 ⟨vs, ds, hvl, hv, hds, hg, d11, b11'⟩
      have b11 := b10.trans b11'
      walk_at "go"
      refine uTup_l (sl hv) fun p hp => ?_
      walk_at "go"
      have k11 : KeepL H6 H11 := d5.kl b11
      have he11 : H11 el = some (.lst (ts.map V.ref)) := b11 _ _ he5 hed
      have hpe : el ≠ p := fun e => by rw [← e, he11] at hp; cases hp
      refine ⟨ty_l (sl (by rw [upd_ne hpe]; exact he11)), ?_⟩
      walk_at "go"
      refine rd_mkD ?_
      walk_at "go"
      intro r dx hr0 hdx hne2
      have s12 : Same H11 (upd (upd (upd H11 p (.tup vs)) dx (.own r)) r (.ins (CP K) dx (rpF (.str (S kx)) (.str (S mx)) (.ref p)))) := (Same.new hp).trans ((Same.new hdx).trans (Same.new (by rw [upd_ne (Ne.symm hne2)]; exact hr0)))
      refine ⟨r, dx, .str (S kx), .str (S mx), .ref p, rfl, upd_same, rfl, ?_⟩
      rw [upd_upd]
      walk_at "go"
      refine ⟨sz (by simp), fun t ht => ?_⟩
      walk_at "go"
      have hpx : p ≠ dx := fun e => by rw [← e, upd_same] at hdx; cases hdx
      have hpr : p ≠ r := fun e => by rw [← e, upd_same] at hr0; cases hr0
      have hp12 : (upd (upd (upd H11 p (.tup vs)) dx (.own r)) r (.ins (CP K) dx (rpF (.str (S kx)) (.str (S mx)) (.ref p)))) p = some (.tup vs) := by rw [upd_ne hpr, upd_ne hpx, upd_same]
      have hr12 : (upd (upd (upd H11 p (.tup vs)) dx (.own r)) r (.ins (CP K) dx (rpF (.str (S kx)) (.str (S mx)) (.ref p)))) r = some (.ins (CP K) dx (rpF (.str (S kx)) (.str (S mx)) (.ref p))) := upd_same
      generalize upd (upd (upd H11 p (.tup vs)) dx (.own r)) r (.ins (CP K) dx (rpF (.str (S kx)) (.str (S mx)) (.ref p))) = H12 at s12 ht hp12 hr12 ⊢
      have s23 : Same H12 (upd H12 t (.tup [.str (S lx), .ref r])) := Same.new ht
      have ht13 : (upd H12 t (.tup [.str (S lx), .ref r])) t = some (.tup [.str (S lx), .ref r]) := upd_same
      generalize upd H12 t (.tup [.str (S lx), .ref r]) = H13 at s23 ht13 ⊢
      have s13 := s12.trans s23
      have he13 := s13 _ _ he11
      have hA6 := hA5.len
      refine ap_l he13 (small (by rw [List.length_map]; omega)) ?_
      walk_at "go"
      have hd13 := d11.keep s13
      have kl0 := KeepL.lst (o := .lst (ts.map V.ref ++ [V.ref t])) he13
      have d14 : DrawAt (upd H13 el (.lst (ts.map V.ref ++ [V.ref t]))) cl d := by
        obtain ⟨i5, c5, m5, ns5, e1, e2, e3⟩ := hd13
        exact ⟨i5, c5, m5, ns5, by rw [upd_ne (Ne.symm hed)]; exact e1, by rw [upd_ne (Ne.symm hec)]; exact e2, e3⟩
      have he14 : (upd H13 el (.lst (ts.map V.ref ++ [V.ref t]))) el = some (.lst (ts.map V.ref ++ [V.ref t])) := upd_same
      have k614 := k11.trans ((KeepL.of s13).trans kl0)
      have k1114 := (KeepL.of s13).trans kl0
      have hp14 := kl0 _ _ (s23 _ _ hp12) fun _ z => nomatch z
      have hr14 := kl0 _ _ (s23 _ _ hr12) fun _ z => nomatch z
      have ht14 := kl0 _ _ ht13 fun _ z => nomatch z
      generalize upd H13 el (.lst (ts.map V.ref ++ [V.ref t])) = H14 at d14 he14 k614 k1114 hp14 hr14 ht14 ⊢
      have hds14 : DTs H14 vs ds := hds.keep k1114.t
      have hdl : ds.length ≤ 2 := by rw [← hds.len, hvl]; omega
      obtain ⟨a0, hwr, hal, hdz⟩ := gds_txt hg hdl
      have hdt : DT H14 (.ref p) (.t ds) := .t hp14 hds14
      have hmz := msz_pd (.t ds)
      rw [DM.dsz] at hmz
      have hk12 := pkx.2
      have hl6 := plx.2
      have hm6 := pmx.2
      have hes : es.length ≤ 3 := by omega
      refine uAdd_s (Nat.le_of_lt (small (by simp only [List.length_append, List.length_cons, List.length_nil]; omega))) ?_
      walk_at "go"
      refine uAdd_s (Nat.le_of_lt (small (by simp only [List.length_append, List.length_cons, List.length_nil]; omega))) ?_
      walk_at "go"
      refine uAdd_s (Nat.le_of_lt (small (by simp only [List.length_append, List.length_cons, List.length_nil]; omega))) ?_
      walk_at "go"
      refine uAdd_s (Nat.le_of_lt (small (by simp only [List.length_append, List.length_cons, List.length_nil]; omega))) ?_
      walk_at "go"
      refine uAdd_s (Nat.le_of_lt (small (by simp only [List.length_append, List.length_cons, List.length_nil]; omega))) ?_
      walk_at "go"
      refine uAdd_s (Nat.le_of_lt (small (by simp only [List.length_append, List.length_cons, List.length_nil]; omega))) ?_
      walk_at "go"
      refine uAdd_s (Nat.le_of_lt (small (by simp only [List.length_append, List.length_cons, List.length_nil]; omega))) ?_
      walk_at "go"
      refine ⟨.ref p, pd (.t ds), rfl, hdt.dp, by omega, fun a1 ha1 => ?_, fun hn => by rw [toD_pd, hwr] at hn; cases hn⟩
      rw [toD_pd, hwr] at ha1
      cases ha1
      refine ⟨by omega, fun H15 s15 => ?_⟩
      walk_at "go"
      refine uAdd_s (Nat.le_of_lt (small (by simp only [List.length_append, List.length_cons, List.length_nil]; omega))) ?_
      walk_at "go"
      refine uAdd_s (Nat.le_of_lt (small (by simp only [List.length_append, List.length_cons, List.length_nil]; omega))) ?_
      walk_at "go"
      rw [show enTx es ++ [62, 32] ++ lx ++ [10, 61, 32] ++ kx ++ [32] ++ mx ++ [10, 35, 32] ++ a0 ++ [10] = enTx (es ++ [⟨lx, kx, mx, ds, a0⟩]) from (enTx_snoc es ⟨lx, kx, mx, ds, a0⟩).symm]
      refine ⟨ts ++ [t], es ++ [⟨lx, kx, mx, ds, a0⟩], _, _, _, _, _, _, _, _, _, _, rfl, d14.keep s15, ?_, EnAll.snoc ?_ (hA5.keep (k614.trans (KeepL.of s15))), fun e he => ?_, by rw [List.length_append, hlen]; rfl, hed, hec⟩
      · rw [List.map_append]
        exact s15 _ _ he14
      · exact ⟨t, r, p, vs, rfl, s15 _ _ ht14, ⟨dx, s15 _ _ hr14⟩, s15 _ _ hp14, hds14.keep (KeepT.of s15)⟩
      · rcases List.mem_append.mp he with y | y
        · exact hS5 e y
        · rw [List.mem_singleton.mp y]
          exact ⟨⟨plx.1, pkx.1, pmx.1, hwr⟩, by show lx.length ≤ 10; omega, by show mx.length ≤ 10; omega, hal, hdz⟩
    · rintro σ H5 ⟨ts, es, o5, o6, o7, o8, o9, o10, o11, o12, o13, o14, rfl, d5, he5, hA5, hS5, hlen, _, _⟩
      have htl := enTx_len hS5
      have hes : es.length ≤ 3 := by omega
      have hzt : (enTx es).length ≤ 39990 := by omega
      have hA6 := hA5.len
      walk_at "gf"
      refine ⟨sz (by simp), fun q0 hq0 => ?_⟩
      walk_at "gf"
      refine uAdd_l ((Same.new hq0) _ _ he5) upd_same (by rw [List.length_map, hA6]; exact Nat.le_of_lt (small (by simp; omega))) fun hl hhl => ?_
      walk_at "gf"
      have sH : Same H5 (upd (upd H5 q0 (.lst [])) hl (.lst (ts.map V.ref ++ []))) := (Same.new hq0).trans (Same.new hhl)
      have hhl2 : (upd (upd H5 q0 (.lst [])) hl (.lst (ts.map V.ref ++ []))) hl = some (.lst (ts.map V.ref)) := by rw [upd_same, List.append_nil]
      generalize upd (upd H5 q0 (.lst [])) hl (.lst (ts.map V.ref ++ [])) = H6 at sH hhl2 ⊢
      have he6 := sH _ _ he5
      have hA7 := hA5.keep (KeepL.of sH)
      refine rd_fn ?_
      walk_at "gf"
      refine .inl ⟨_, rfl, .inr ⟨el, _, _, rfl, sl he6, hA7.ent hS5, by rw [List.length_map]; omega, fun ls hls => ?_, fun hn => by rw [seqO_en] at hn; cases hn⟩⟩
      rw [seqO_en] at hls
      cases hls
      refine ⟨by show (enTx es).length ≤ 1000000; omega, fun H7 s7 => ?_⟩
      walk_at "gf"
      refine iff_ (by simp [enTx]) ?_
      refine rd_fits (tx := enTx es) rfl hzt fun H8 s8 => ?_
      walk_at "gf"
      refine iff_ rfl ?_
      walk_at "gf"
      refine rd_fn ?_
      walk_at "gf"
      obtain ⟨ps, hps, hpl⟩ := DM.dres_text (es := es) fun e he => (hS5 e he).1
      refine .inr ⟨_, rfl, .inr ⟨enTx es, rfl, hzt, (fun n hn => by rw [show DM.dres (rowsOf (enTx es)) = .inr ps from hps] at hn; cases hn), fun ps' hp' H9 p9 s9 hD => ?_⟩⟩
      rw [show DM.dres (rowsOf (enTx es)) = .inr ps from hps] at hp'
      cases hp'
      obtain ⟨xs9, hx9, hx9l, _, _⟩ := hD
      walk_at "gf"
      refine uLen_l (sl hx9) ?_
      walk_at "gf"
      have s69 := s7.trans (s8.trans s9)
      have he9 := s69 _ _ he6
      refine uLen_l (sl he9) ?_
      walk_at "gf"
      refine iff_ (by rw [List.length_map, hA6, show xs9.length = es.length by omega]; simp) ?_
      walk_at "gf"
      refine uNe_same (sl he9) (sl (s69 _ _ hhl2)) ?_
      walk_at "gf"
      refine iff_ rfl ?_
      walk_at "gf"
      refine ⟨_, rfl, by decide, by decide, ?_⟩
      have d9 := d5.keep (sH.trans s69)
      refine fo_it walk_range (fun z σ H' => ∃ o10 o12 o13 o14 : Option V, σ = [some (.ref a), some (.ref d), some (.int (0 + (i : Int))), some (.ref el), some (.str (S (enTx es))), o5, o6, o7, o8, o9, o10, some (.ref hl), o12, o13, o14, none, none, none, none] ∧ DrawAt H' cl d) ⟨_, _, _, _, rfl, d9⟩ (fun _ _ _ _ _ => True.intro) ?_ ?_
      · rintro z x σ Ha Hb hz ⟨o10, o12, o13, o14, rfl, da⟩ ⟨rfl, rfl⟩
        walk_at "gf"
        refine rd_fn ?_
        walk_at "gf"
        refine uLen_s (Nat.le_of_lt (small (by omega))) ?_
        walk_at "gf"
        refine ⟨cl, d, _, rfl, da, by omega, by omega, fun Hc n bc dc hn0 hn1 => ?_⟩
        walk_at "gf"
        refine ⟨sz (by simp), fun l1 hl1 => ?_⟩
        walk_at "gf"
        refine rd_fn ?_
        walk_at "gf"
        have n1 := (nd dc hl1).1
        refine ⟨cl, d, 8, rfl, dc.keep (Same.new hl1), by decide, by decide, fun Hd m bd dd hm0 hm1 => ?_⟩
        walk_at "gf"
        refine pick_s (ls := [[120], [10], [32], [62], [61], [35], [91], [65]]) (sl (bd _ _ upd_same n1)) hm0 hm1 fun sg hsg => ?_
        have hsl : sg.length ≤ 1 := (by decide : ∀ x ∈ [[120], [10], [32], [62], [61], [35], [91], [65]], x.length ≤ 1) sg hsg
        clear hsg
        have hc : ∀ lo hi, (cutL (enTx es) lo hi).length ≤ 600 := fun lo hi => Nat.le_trans (cutL_len _ _ _) (by omega)
        have hzs : (enTx es).length ≤ sizeLine := Nat.le_of_lt (small (by omega))
        walk_at "gf"
        refine uSl_s hzs ?_
        walk_at "gf"
        refine uAdd_s (Nat.le_of_lt (small (by have h1 := hc none (some n); have h2 := hc (some n) none; have h3 := hc (some (n + 1)) none; (try simp only [List.length_append, List.length_cons, List.length_nil]); omega))) ?_
        walk_at "gf"
        refine uSl_s hzs ?_
        walk_at "gf"
        refine uAdd_s (Nat.le_of_lt (small (by have h1 := hc none (some n); have h2 := hc (some n) none; have h3 := hc (some (n + 1)) none; (try simp only [List.length_append, List.length_cons, List.length_nil]); omega))) ?_
        walk_at "gf"
        refine uSl_s hzs ?_
        walk_at "gf"
        refine uSl_s hzs ?_
        walk_at "gf"
        refine uAdd_s (Nat.le_of_lt (small (by have h1 := hc none (some n); have h2 := hc (some n) none; have h3 := hc (some (n + 1)) none; (try simp only [List.length_append, List.length_cons, List.length_nil]); omega))) ?_
        walk_at "gf"
        refine uSl_s hzs ?_
        walk_at "gf"
        refine uAdd_s (Nat.le_of_lt (small (by have h1 := hc none (some n); have h2 := hc (some n) none; have h3 := hc (some (n + 1)) none; (try simp only [List.length_append, List.length_cons, List.length_nil]); omega))) ?_
        walk_at "gf"
        refine uAdd_s (Nat.le_of_lt (small (by have h1 := hc none (some n); have h2 := hc (some n) none; have h3 := hc (some (n + 1)) none; (try simp only [List.length_append, List.length_cons, List.length_nil]); omega))) ?_
        walk_at "gf"
        refine ⟨sz (by simp), fun lo hlo => ?_⟩
        walk_at "gf"
        have hfive : ∀ x ∈ [cutL (enTx es) none (some n) ++ sg ++ cutL (enTx es) (some n) none, cutL (enTx es) none (some n) ++ cutL (enTx es) (some (n + 1)) none, cutL (enTx es) none (some n), enTx es ++ [62, 32], enTx es ++ [10]], x.length ≤ 39990 := by
          intro x hx
          have h1 := hc none (some n)
          have h2 := hc (some n) none
          have h3 := hc (some (n + 1)) none
          simp only [List.mem_cons, List.not_mem_nil, or_false] at hx
          rcases hx with e | e | e | e | e <;> (rw [e]; (try simp only [List.length_append, List.length_cons, List.length_nil]); omega)
        have hlo2 : (upd Hd lo (.lst ([cutL (enTx es) none (some n) ++ sg ++ cutL (enTx es) (some n) none, cutL (enTx es) none (some n) ++ cutL (enTx es) (some (n + 1)) none, cutL (enTx es) none (some n), enTx es ++ [62, 32], enTx es ++ [10]].map fun x => V.str (S x)))) lo = some (.lst ([cutL (enTx es) none (some n) ++ sg ++ cutL (enTx es) (some n) none, cutL (enTx es) none (some n) ++ cutL (enTx es) (some (n + 1)) none, cutL (enTx es) none (some n), enTx es ++ [62, 32], enTx es ++ [10]].map fun x => V.str (S x))) := upd_same
        generalize hfv : [cutL (enTx es) none (some n) ++ sg ++ cutL (enTx es) (some n) none, cutL (enTx es) none (some n) ++ cutL (enTx es) (some (n + 1)) none, cutL (enTx es) none (some n), enTx es ++ [62, 32], enTx es ++ [10]] = five at hfive hlo2
        have sE : Same Hd (upd Hd lo (.lst (five.map fun x => V.str (S x)))) := Same.new hlo
        rw [show [V.str (S (cutL (enTx es) none (some n) ++ sg ++ cutL (enTx es) (some n) none)), V.str (S (cutL (enTx es) none (some n) ++ cutL (enTx es) (some (n + 1)) none)), V.str (S (cutL (enTx es) none (some n))), V.str (S (enTx es ++ [62, 32])), V.str (S (enTx es ++ [10]))] = five.map (fun x => V.str (S x)) by rw [← hfv]; rfl]
        generalize upd Hd lo (.lst (five.map fun x => V.str (S x))) = He at sE hlo2 ⊢
        refine ⟨lo, rfl, ⟨_, sl hlo2⟩, ?_⟩
        refine fo_it (walk_list (xs := five.map fun x => V.str (S x))) (fun z' σ H' => ∃ o14 : Option V, σ = [some (.ref a), some (.ref d), some (.int (0 + (i : Int))), some (.ref el), some (.str (S (enTx es))), o5, o6, o7, o8, o9, some (.int n), some (.ref hl), some (.int (0 + (z : Int))), some (.str (S sg)), o14, none, none, none, none] ∧ Same He H') ⟨_, rfl, .refl _⟩ (fun z' σ H' _ h => by obtain ⟨o14, _, s⟩ := h; exact sl (s _ _ hlo2)) ?_ ?_
        · rintro y x σ Hf Hg hy ⟨o14', rfl, sf⟩ ⟨rfl, hx⟩
          rw [List.getElem?_map] at hx
          cases hxy : five[y]? with
          | none => rw [hxy] at hx; cases hx
          | some tx =>
            rw [hxy] at hx
            cases hx
            walk_at "gf"
            refine rd_fits (tx := tx) rfl (hfive tx (List.mem_of_getElem? hxy)) fun H8 s8 => ?_
            walk_at "gf"
            refine iff_ rfl ?_
            walk_at "gf"
            exact ⟨_, rfl, sf.trans s8⟩
        · rintro σ Hf ⟨o14', rfl, sf⟩
          walk_at "gf"
          exact ⟨_, _, _, _, rfl, dd.keep (sE.trans sf)⟩
      · rintro σ Ha ⟨o10, o12, o13, o14, rfl, da⟩
        walk_at "gf"
        exact ⟨_, _, _, _, _, _, _, _, _, _, _, _, _, rfl, da⟩
  · rintro σ H2 ⟨o2, o3, o4, o5, o6, o7, o8, o9, o10, o11, o12, o13, o14, rfl, hd2⟩
    clear hd2
    walk_at "gf"
    refine rd_mkD ?_
    walk_at "gf"
    intro r1 x1 hr1 hx1 hne1
    refine ⟨r1, x1, .str (S [100, 111, 110, 101]), .str (S []), .ref (He.dflAt ("Reply", some "__init__") 1 K), rfl, upd_same, rfl, ?_⟩
    rw [upd_upd]
    generalize hG1 : upd (upd _ x1 _) r1 _ = G1
    have s1 := Same.rp hr1 hx1 hne1 hG1
    have e1 : RpAt K G1 r1 (.str (S [100, 111, 110, 101])) (.str (S [])) (.ref (He.dflAt ("Reply", some "__init__") 1 K)) := ⟨x1, get_new hG1⟩
    clear hG1 hr1 hx1 hne1
    walk_at "gf"
    refine ⟨sz (by simp), fun p2 hp2 => ?_⟩
    generalize hG2 : upd _ p2 _ = G2
    have s2 := Same.new' hp2 hG2
    have e2 : G2 p2 = some (.tup [.str (S []), .ref r1]) := get_new hG2
    clear hG2 hp2
    walk_at "gf"
    refine ⟨sz (by simp), fun p3 hp3 => ?_⟩
    generalize hG3 : upd _ p3 _ = G3
    have s3 := Same.new' hp3 hG3
    have e3 : G3 p3 = some (.tup [.str (S [])]) := get_new hG3
    clear hG3 hp3
    walk_at "gf"
    refine rd_mkD ?_
    walk_at "gf"
    intro r4 x4 hr4 hx4 hne4
    refine ⟨r4, x4, .str (S [97]), .str (S []), .ref (He.dflAt ("Reply", some "__init__") 1 K), rfl, upd_same, rfl, ?_⟩
    rw [upd_upd]
    generalize hG4 : upd (upd _ x4 _) r4 _ = G4
    have s4 := Same.rp hr4 hx4 hne4 hG4
    have e4 : RpAt K G4 r4 (.str (S [97])) (.str (S [])) (.ref (He.dflAt ("Reply", some "__init__") 1 K)) := ⟨x4, get_new hG4⟩
    clear hG4 hr4 hx4 hne4
    walk_at "gf"
    refine ⟨sz (by simp), fun p5 hp5 => ?_⟩
    generalize hG5 : upd _ p5 _ = G5
    have s5 := Same.new' hp5 hG5
    have e5 : G5 p5 = some (.lst [.str (S []), .ref r4]) := get_new hG5
    clear hG5 hp5
    walk_at "gf"
    refine rd_mkD ?_
    walk_at "gf"
    intro r6 x6 hr6 hx6 hne6
    refine ⟨r6, x6, .str (S [97]), .str (S []), .ref (He.dflAt ("Reply", some "__init__") 1 K), rfl, upd_same, rfl, ?_⟩
    rw [upd_upd]
    generalize hG6 : upd (upd _ x6 _) r6 _ = G6
    have s6 := Same.rp hr6 hx6 hne6 hG6
    have e6 : RpAt K G6 r6 (.str (S [97])) (.str (S [])) (.ref (He.dflAt ("Reply", some "__init__") 1 K)) := ⟨x6, get_new hG6⟩
    clear hG6 hr6 hx6 hne6
    walk_at "gf"
    refine ⟨sz (by simp), fun p7 hp7 => ?_⟩
    generalize hG7 : upd _ p7 _ = G7
    have s7 := Same.new' hp7 hG7
    have e7 : G7 p7 = some (.tup [.non, .ref r6]) := get_new hG7
    clear hG7 hp7
    walk_at "gf"
    refine rd_mkD ?_
    walk_at "gf"
    intro r8 x8 hr8 hx8 hne8
    refine ⟨r8, x8, .str (S [97]), .str (S []), .ref (He.dflAt ("Reply", some "__init__") 1 K), rfl, upd_same, rfl, ?_⟩
    rw [upd_upd]
    generalize hG8 : upd (upd _ x8 _) r8 _ = G8
    have s8 := Same.rp hr8 hx8 hne8 hG8
    have e8 : RpAt K G8 r8 (.str (S [97])) (.str (S [])) (.ref (He.dflAt ("Reply", some "__init__") 1 K)) := ⟨x8, get_new hG8⟩
    clear hG8 hr8 hx8 hne8
    walk_at "gf"
    refine ⟨sz (by simp), fun p9 hp9 => ?_⟩
    generalize hG9 : upd _ p9 _ = G9
    have s9 := Same.new' hp9 hG9
    have e9 : G9 p9 = some (.tup [.str (S [97, 10]), .ref r8]) := get_new hG9
    clear hG9 hp9
    walk_at "gf"
    refine ⟨sz (by simp), fun p10 hp10 => ?_⟩
    generalize hG10 : upd _ p10 _ = G10
    have s10 := Same.new' hp10 hG10
    have e10 : G10 p10 = some (.tup []) := get_new hG10
    clear hG10 hp10
    walk_at "gf"
    refine ⟨sz (by simp), fun p11 hp11 => ?_⟩
    generalize hG11 : upd _ p11 _ = G11
    have s11 := Same.new' hp11 hG11
    have e11 : G11 p11 = some (.tup [.str (S [97]), .str (S []), .ref p10]) := get_new hG11
    clear hG11 hp11
    walk_at "gf"
    refine ⟨sz (by simp), fun p12 hp12 => ?_⟩
    generalize hG12 : upd _ p12 _ = G12
    have s12 := Same.new' hp12 hG12
    have e12 : G12 p12 = some (.tup [.str (S []), .ref p11]) := get_new hG12
    clear hG12 hp12
    walk_at "gf"
    refine rd_mkD ?_
    walk_at "gf"
    intro r13 x13 hr13 hx13 hne13
    refine ⟨r13, x13, .str (S [65]), .str (S []), .ref (He.dflAt ("Reply", some "__init__") 1 K), rfl, upd_same, rfl, ?_⟩
    rw [upd_upd]
    generalize hG13 : upd (upd _ x13 _) r13 _ = G13
    have s13 := Same.rp hr13 hx13 hne13 hG13
    have e13 : RpAt K G13 r13 (.str (S [65])) (.str (S [])) (.ref (He.dflAt ("Reply", some "__init__") 1 K)) := ⟨x13, get_new hG13⟩
    clear hG13 hr13 hx13 hne13
    walk_at "gf"
    refine ⟨sz (by simp), fun p14 hp14 => ?_⟩
    generalize hG14 : upd _ p14 _ = G14
    have s14 := Same.new' hp14 hG14
    have e14 : G14 p14 = some (.tup [.str (S []), .ref r13]) := get_new hG14
    clear hG14 hp14
    walk_at "gf"
    refine ⟨sz (by simp), fun p15 hp15 => ?_⟩
    generalize hG15 : upd _ p15 _ = G15
    have s15 := Same.new' hp15 hG15
    have e15 : G15 p15 = some (.lst [.non, .ref p3, .ref p5, .ref p7, .ref p9, .ref p12, .ref p14]) := get_new hG15
    clear hG15 hp15
    walk_at "gf"
    refine rd_mkD ?_
    walk_at "gf"
    intro r16 x16 hr16 hx16 hne16
    refine ⟨r16, x16, .str (S [97]), .non, .ref (He.dflAt ("Reply", some "__init__") 1 K), rfl, upd_same, rfl, ?_⟩
    rw [upd_upd]
    generalize hG16 : upd (upd _ x16 _) r16 _ = G16
    have s16 := Same.rp hr16 hx16 hne16 hG16
    have e16 : RpAt K G16 r16 (.str (S [97])) (.non) (.ref (He.dflAt ("Reply", some "__init__") 1 K)) := ⟨x16, get_new hG16⟩
    clear hG16 hr16 hx16 hne16
    walk_at "gf"
    refine ⟨sz (by simp), fun p17 hp17 => ?_⟩
    generalize hG17 : upd _ p17 _ = G17
    have s17 := Same.new' hp17 hG17
    have e17 : G17 p17 = some (.tup [.str (S []), .ref r16]) := get_new hG17
    clear hG17 hp17
    walk_at "gf"
    refine rd_mkD ?_
    walk_at "gf"
    intro r18 x18 hr18 hx18 hne18
    refine ⟨r18, x18, .str (S [97]), .str (S [10]), .ref (He.dflAt ("Reply", some "__init__") 1 K), rfl, upd_same, rfl, ?_⟩
    rw [upd_upd]
    generalize hG18 : upd (upd _ x18 _) r18 _ = G18
    have s18 := Same.rp hr18 hx18 hne18 hG18
    have e18 : RpAt K G18 r18 (.str (S [97])) (.str (S [10])) (.ref (He.dflAt ("Reply", some "__init__") 1 K)) := ⟨x18, get_new hG18⟩
    clear hG18 hr18 hx18 hne18
    walk_at "gf"
    refine ⟨sz (by simp), fun p19 hp19 => ?_⟩
    generalize hG19 : upd _ p19 _ = G19
    have s19 := Same.new' hp19 hG19
    have e19 : G19 p19 = some (.tup [.str (S []), .ref r18]) := get_new hG19
    clear hG19 hp19
    walk_at "gf"
    refine ⟨sz (by simp), fun p20 hp20 => ?_⟩
    generalize hG20 : upd _ p20 _ = G20
    have s20 := Same.new' hp20 hG20
    have e20 : G20 p20 = some (.lst []) := get_new hG20
    clear hG20 hp20
    walk_at "gf"
    intro r21 x21 hr21 hx21 hne21
    refine ⟨r21, x21, .str (S [97]), .str (S []), .ref p20, rfl, upd_same, rfl, ?_⟩
    rw [upd_upd]
    generalize hG21 : upd (upd _ x21 _) r21 _ = G21
    have s21 := Same.rp hr21 hx21 hne21 hG21
    have e21 : RpAt K G21 r21 (.str (S [97])) (.str (S [])) (.ref p20) := ⟨x21, get_new hG21⟩
    clear hG21 hr21 hx21 hne21
    walk_at "gf"
    refine ⟨sz (by simp), fun p22 hp22 => ?_⟩
    generalize hG22 : upd _ p22 _ = G22
    have s22 := Same.new' hp22 hG22
    have e22 : G22 p22 = some (.tup [.str (S []), .ref r21]) := get_new hG22
    clear hG22 hp22
    walk_at "gf"
    refine ⟨sz (by simp), fun p23 hp23 => ?_⟩
    generalize hG23 : upd _ p23 _ = G23
    have s23 := Same.new' hp23 hG23
    have e23 : G23 p23 = some (.tup [.non]) := get_new hG23
    clear hG23 hp23
    walk_at "gf"
    intro r24 x24 hr24 hx24 hne24
    refine ⟨r24, x24, .str (S [97]), .str (S []), .ref p23, rfl, upd_same, rfl, ?_⟩
    rw [upd_upd]
    generalize hG24 : upd (upd _ x24 _) r24 _ = G24
    have s24 := Same.rp hr24 hx24 hne24 hG24
    have e24 : RpAt K G24 r24 (.str (S [97])) (.str (S [])) (.ref p23) := ⟨x24, get_new hG24⟩
    clear hG24 hr24 hx24 hne24
    walk_at "gf"
    refine ⟨sz (by simp), fun p25 hp25 => ?_⟩
    generalize hG25 : upd _ p25 _ = G25
    have s25 := Same.new' hp25 hG25
    have e25 : G25 p25 = some (.tup [.str (S []), .ref r24]) := get_new hG25
    clear hG25 hp25
    walk_at "gf"
    refine ⟨sz (by simp), fun p26 hp26 => ?_⟩
    generalize hG26 : upd _ p26 _ = G26
    have s26 := Same.new' hp26 hG26
    have e26 : G26 p26 = some (.lst [.ref p17, .ref p19, .ref p22, .ref p25]) := get_new hG26
    clear hG26 hp26
    walk_at "gf"
    have z26 : Same G26 G26 := .refl _
    have z25 := s26.trans z26
    have z24 := s25.trans z25
    have z23 := s24.trans z24
    have z22 := s23.trans z23
    have z21 := s22.trans z22
    have z20 := s21.trans z21
    have z19 := s20.trans z20
    have z18 := s19.trans z19
    have z17 := s18.trans z18
    have z16 := s17.trans z17
    have z15 := s16.trans z16
    have z14 := s15.trans z15
    have z13 := s14.trans z14
    have z12 := s13.trans z13
    have z11 := s12.trans z12
    have z10 := s11.trans z11
    have z9 := s10.trans z10
    have z8 := s9.trans z9
    have z7 := s8.trans z8
    have z6 := s7.trans z7
    have z5 := s6.trans z6
    have z4 := s5.trans z5
    have z3 := s4.trans z4
    have z2 := s3.trans z3
    have z1 := s2.trans z2
    refine uAdd_l (z15 _ _ e15) e26 (sz (by simp)) fun pb hpb => ?_
    generalize hGz : upd _ pb _ = Gz
    have sz' := Same.new' hpb hGz
    have ez : Gz pb = some (.lst [.non, .ref p3, .ref p5, .ref p7, .ref p9, .ref p12, .ref p14, .ref p17, .ref p19, .ref p22, .ref p25]) := get_new hGz
    clear hGz hpb
    have dD : ∀ H, Dp K H (.ref (He.dflAt ("Reply", some "__init__") 1 K)) (.tuple []) := fun H => .tup (tupB_ok T.m_Reply___init___1 H) .nil
    have good : EntAt K Gz (.ref p2) (repTx [] (.str (S [100, 111, 110, 101])) (.str (S [])) (.tuple [])) :=
      .rep (.of (sz' _ _ (z2 _ _ e2))) (by decide) (by decide) ((e1.keep z1).keep sz') (.str _) (lenS_s (by decide)) (.str _) (lenS_s (by decide)) (dD _) (by decide) fun a ha => by rw [wr_e] at ha; cases ha; decide
    have bads : ∀ x ∈ [V.non, .ref p3, .ref p5, .ref p7, .ref p9, .ref p12, .ref p14, .ref p17, .ref p19, .ref p22, .ref p25], EntAt K Gz x none := by
      intro x hx
      simp only [List.mem_cons, List.not_mem_nil, or_false] at hx
      rcases hx with rfl | rfl | rfl | rfl | rfl | rfl | rfl | rfl | rfl | rfl | rfl
      · exact .notT (.base .non) rfl
      · exact .len (.of (sz' _ _ (z3 _ _ e3))) (by decide)
      · exact .notT (tyx_l (sl (sz' _ _ (z5 _ _ e5)))) rfl
      · exact .line (.of (sz' _ _ (z7 _ _ e7))) .non trivial rfl
      · exact .line (.of (sz' _ _ (z9 _ _ e9))) (.str _) (lenS_s (by decide)).ok (by decide +kernel)
      · exact .noR (.of (sz' _ _ (z12 _ _ e12))) (by decide) (by decide) (tyx_t (.of (sz' _ _ (z11 _ _ e11)))) (by decide)
      · exact rep_bad (.of (sz' _ _ (z14 _ _ e14))) (by decide) (by decide) ((e13.keep z13).keep sz') (.str _) (lenS_s (by decide)) (.str _) (lenS_s (by decide)) (dD _) (by decide) (fun a ha => by rw [wr_e] at ha; cases ha; decide) (rep_w (by decide +kernel))
      · exact rep_bad (.of (sz' _ _ (z17 _ _ e17))) (by decide) (by decide) ((e16.keep z16).keep sz') (.str _) (lenS_s (by decide)) .non trivial (dD _) (by decide) (fun a ha => by rw [wr_e] at ha; cases ha; decide) (rep_t rfl)
      · exact rep_bad (.of (sz' _ _ (z19 _ _ e19))) (by decide) (by decide) ((e18.keep z18).keep sz') (.str _) (lenS_s (by decide)) (.str _) (lenS_s (by decide)) (dD _) (by decide) (fun a ha => by rw [wr_e] at ha; cases ha; decide) (rep_t (by decide +kernel))
      · exact rep_bad (.of (sz' _ _ (z22 _ _ e22))) (by decide) (by decide) ((e21.keep z21).keep sz') (.str _) (lenS_s (by decide)) (.str _) (lenS_s (by decide)) (.lst (sl (sz' _ _ (z20 _ _ e20))) .nil) (by decide) (fun a ha => by rw [toD, DM.wr] at ha; cases ha) (rep_v rfl)
      · exact rep_bad (.of (sz' _ _ (z25 _ _ e25))) (by decide) (by decide) ((e24.keep z24).keep sz') (.str _) (lenS_s (by decide)) (.str _) (lenS_s (by decide)) (.tup (.of (sz' _ _ (z23 _ _ e23))) (.cons .non .nil)) (by decide) (fun a ha => by rw [wr_x] at ha; cases ha) (rep_n wr_x)
    clear z1 s1 e1 z2 s2 e2 z3 s3 e3 z4 s4 e4 z5 s5 e5 z6 s6 e6 z7 s7 e7 z8 s8 e8 z9 s9 e9 z10 s10 e10 z11 s11 e11 z12 s12 e12 z13 s13 e13 z14 s14 e14 z15 s15 e15 z16 s16 e16 z17 s17 e17 z18 s18 e18 z19 s19 e19 z20 s20 e20 z21 s21 e21 z22 s22 e22 z23 s23 e23 z24 s24 e24 z25 s25 e25 z26 s26 e26 sz' dD
    walk_at "gf"
    have hxl : [V.non, .ref p3, .ref p5, .ref p7, .ref p9, .ref p12, .ref p14, .ref p17, .ref p19, .ref p22, .ref p25].length = 11 := rfl
    generalize [V.non, .ref p3, .ref p5, .ref p7, .ref p9, .ref p12, .ref p14, .ref p17, .ref p19, .ref p22, .ref p25] = xs at ez bads hxl
    refine ⟨pb, rfl, ⟨_, sl ez⟩, fun D hD => ?_⟩
    refine lc_it (walk_list (xs := xs)) (fun q H' => Same Gz H' ∧ H' D = some (.lst (List.replicate q (.bl false)))) ⟨Same.new hD, upd_same⟩ (fun q H' _ h => sl (h.1 _ _ ez)) ?_ ?_
    · rintro q x Hu Hv hq ⟨su, hu⟩ ⟨rfl, hx⟩
      refine ⟨rfl, rd_yes (ift rfl ?_)⟩
      refine rd_st (σ' := [some (.ref a), some (.ref d), o2, o3, o4, o5, o6, o7, o8, o9, o10, o11, o12, o13, o14, some (.ref p2), some (.ref pb), some x, none]) rfl ?_
      walk_at "gf"
      refine rd_fn ?_
      walk_at "gf"
      refine ⟨sz (by simp), fun pl hpl => ?_⟩
      walk_at "gf"
      have sw := su.trans (Same.new (o := .lst [.ref p2, x]) hpl)
      refine told0_bad (sl upd_same) (good.keep sw) ((bads x (List.mem_of_getElem? hx)).keep sw) fun Hw m hm s' => ?_
      walk_at "gf"
      refine uSl_s (Nat.le_of_lt (small (by simp only [List.length_append, List.length_cons, List.length_nil]; omega))) ?_
      rw [cut1]
      walk_at "gf"
      refine ⟨_, (((Same.new hpl).trans s') _ _ hu), small (by rw [List.length_replicate]; omega), Same.put (sw.trans s') hD, ?_⟩
      rw [upd_same, List.replicate_succ']
      rfl
    rintro Hu ⟨su, hu⟩
    rw [hxl] at hu
    walk_at "gf"
    refine uAny_l (bs := List.replicate 11 false) (sl (by rw [List.map_replicate]; exact hu)) ?_
    rw [show (List.replicate 11 false).any id = false by decide]
    walk_at "gf"
    refine iff_ rfl ?_
    walk_at "gf"
    refine ⟨sz (by simp), fun pt hpt => ?_⟩
    walk_at "gf"
    refine ⟨sz (by simp), fun pv hpv => ?_⟩
    walk_at "gf"
    have et : (upd Hu pt (.tup [])) pt = some (.tup []) := upd_same
    generalize upd Hu pt (.tup []) = Hb at et hpv ⊢
    have et2 := (Same.new (o := .lst [V.non, .int 5, .ref pt]) hpv) _ _ et
    have ev : (upd Hb pv (.lst [V.non, .int 5, .ref pt])) pv = some (.lst [V.non, .int 5, .ref pt]) := upd_same
    generalize upd Hb pv (.lst [V.non, .int 5, .ref pt]) = Hc at et2 ev ⊢
    refine ⟨pv, rfl, ⟨_, sl ev⟩, fun D2 hD2 => ?_⟩
    refine lc_it (walk_list (xs := [V.non, .int 5, .ref pt])) (fun q H' => Same Hc H' ∧ H' D2 = some (.lst (List.replicate q (.str (S [60]))))) ⟨Same.new hD2, upd_same⟩ (fun q H' _ h => sl (h.1 _ _ ev)) ?_ ?_
    · rintro q x Hu' Hv' hq ⟨su', hu'⟩ ⟨rfl, hx⟩
      refine ⟨rfl, rd_yes (ift rfl ?_)⟩
      refine rd_st (σ' := [some (.ref a), some (.ref d), o2, o3, o4, o5, o6, o7, o8, o9, o10, o11, o12, o13, o14, some (.ref p2), some (.ref pb), none, some x]) rfl ?_
      walk_at "gf"
      refine rd_fn ?_
      walk_at "gf"
      have ty : ∃ n, TyX K Hv' x (.type n) ∧ kitB n "list" = some false := by
        have hm := List.mem_of_getElem? hx
        simp only [List.mem_cons, List.not_mem_nil, or_false] at hm
        rcases hm with rfl | rfl | rfl
        · exact ⟨_, .base .non, rfl⟩
        · exact ⟨_, .base (.int 5), rfl⟩
        · exact ⟨_, tyx_t (.of (su' _ _ et2)), rfl⟩
      obtain ⟨n, t1, t2⟩ := ty
      refine told0_x t1 t2 fun Hw m hm s' => ?_
      walk_at "gf"
      refine uSl_s (Nat.le_of_lt (small (by simp only [List.length_append, List.length_cons, List.length_nil]; omega))) ?_
      rw [cut1]
      have hq3 : q < 3 := hq
      refine ⟨_, s' _ _ hu', small (by rw [List.length_replicate]; omega), Same.put (su'.trans s') hD2, ?_⟩
      rw [upd_same, List.replicate_succ']
    rintro Hd ⟨sd, hd3⟩
    walk_at "gf"
    refine ⟨sz (by simp), fun pw hpw => ?_⟩
    walk_at "gf"
    refine uMul_l upd_same (by decide) (by decide) (by rw [sizeLine_eq]; decide) fun px hpx => ?_
    refine (ne_three (x := [60]) ((Same.new hpx) _ _ ((Same.new hpw) _ _ hd3)) upd_same (by decide +kernel) (by decide +kernel)).1 ?_
    walk_at "gf"
    refine iff_ rfl ?_
    walk_at "gf"
    refine rd_fn ?_
    walk_at "gf"
    refine ⟨sz (by simp), fun pm hpm => ?_⟩
    walk_at "gf"
    refine told0_nil (sl upd_same) fun He se => ?_
    walk_at "gf"
    refine iff_ (by simp) ?_
    walk_at "gf"
    refine rd_fn ?_
    walk_at "gf"
    refine told1_nil fun Hf pf sf hf => ?_
    walk_at "gf"
    refine ⟨sz (by simp), fun pn hpn => ?_⟩
    walk_at "gf"
    refine uNe_l0 (sl ((Same.new hpn) _ _ hf)) (sl upd_same) ?_
    walk_at "gf"
    refine iff_ rfl ?_
    walk_at "gf"
    refine ⟨sz (by simp), fun pq hpq => ?_⟩
    walk_at "gf"
    refine ⟨sz (by simp), fun po hpo => ?_⟩
    walk_at "gf"
    have eq1 : (upd (upd Hf pn (.lst [])) pq (.lst [V.str (S [])])) pq = some (.lst [V.str (S [])]) := upd_same
    generalize upd (upd Hf pn (.lst [])) pq (.lst [V.str (S [])]) = Hg at eq1 hpo ⊢
    have eq2 := (Same.new (o := .lst [V.non, .int 5, .ref pq]) hpo) _ _ eq1
    have eo : (upd Hg po (.lst [V.non, .int 5, .ref pq])) po = some (.lst [V.non, .int 5, .ref pq]) := upd_same
    generalize upd Hg po (.lst [V.non, .int 5, .ref pq]) = Hh at eq2 eo ⊢
    refine ⟨po, rfl, ⟨_, sl eo⟩, fun D3 hD3 => ?_⟩
    refine lc_it (walk_list (xs := [V.non, .int 5, .ref pq])) (fun q H' => Same Hh H' ∧ H' D3 = some (.lst (List.replicate q (.str (S ([60] ++ noText ++ [62])))))) ⟨Same.new hD3, upd_same⟩ (fun q H' _ h => sl (h.1 _ _ eo)) ?_ ?_
    · rintro q x Hu' Hv' hq ⟨su', hu'⟩ ⟨rfl, hx⟩
      refine ⟨rfl, rd_yes (ift rfl ?_)⟩
      refine rd_st (σ' := [some (.ref a), some (.ref d), o2, o3, o4, o5, o6, o7, o8, o9, o10, o11, o12, o13, o14, some (.ref p2), some (.ref pb), none, some x]) rfl ?_
      refine rd_fn ?_
      walk_at "gf"
      have ty : ∃ n, TyX K Hv' x (.type n) ∧ kitB n "str" = some false := by
        have hm := List.mem_of_getElem? hx
        simp only [List.mem_cons, List.not_mem_nil, or_false] at hm
        rcases hm with rfl | rfl | rfl
        · exact ⟨_, .base .non, rfl⟩
        · exact ⟨_, .base (.int 5), rfl⟩
        · exact ⟨_, tyx_l (sl (su' _ _ eq2)), rfl⟩
      obtain ⟨n, t1, t2⟩ := ty
      refine told_x t1 t2 fun Hw s' => ?_
      have hq3 : q < 3 := hq
      refine ⟨_, s' _ _ hu', small (by rw [List.length_replicate]; omega), Same.put (su'.trans s') hD3, ?_⟩
      rw [upd_same, List.replicate_succ']
    rintro Hi ⟨si, hi3⟩
    walk_at "gf"
    refine ⟨sz (by simp), fun py hpy => ?_⟩
    walk_at "gf"
    refine uMul_l upd_same (by decide) (by decide) (by rw [sizeLine_eq]; decide) fun pz hpz => ?_
    refine (ne_three (x := [60] ++ noText ++ [62]) ((Same.new hpz) _ _ ((Same.new hpy) _ _ hi3)) upd_same (by decide +kernel) (by decide +kernel)).2 ?_
    exact k _
end
abbrev R : PySem.W.OpenRow := PySem.W.OpenLaw.row PySem.Challenge.rw_wirewary_k63_whole_texts_of_diaries
abbrev hk : PySem.W.Hook := hookU 6 fa fn exB
def ob (s : PySem.W.SharedT) : He.AlD × Bool := obsU 6 fa fn exB (HandSHeadRun.getT s)
theorem ob_eq (s : PySem.W.SharedT) : ob s = hk.obs s.abs := obsU_eq (HandSHeadRun.getT_eq s)
def names : List Str := ["Fault", "Malformed", "LETTERS", "DIGITS", "is_whole", "same", "MOST_WORD", "MOST_DEPTH", "MOST_DIGITS", "is_word", "is_short", "write_data", "read_whole", "pieces_of", "DataReader", "read_data", "Reply", "MARKS", "is_text", "write_diary", "read_part", "read_diary", "_law_draw", "_law_take", "_law_data", "_law_is_word", "_law_read", "_law_due", "_law_told", "_law_fits"]
theorem run (w : World) : HandSHeadRun.RunEq R (PySem.W.view R.prog [36]) hk ob 4000 names w := by
  intro os
  kernel_rfl
theorem law_ok {P : Program} {w : World} {K : PySem.W.Frag} {mg : Str → Option Value} {base : Heap} {fd : FuncData} (T : Txt K mg) (look : PySem.W.nsIn K cStatics digName = some none) (D : FunD K "law" "law" (defArgs s_law) (defBody s_law) (defScope s_law) [] [] (He.ga K "law") fd) :
    RunAt P w K mg base callerA (He.ga K "law") fd P_law (spLaw K) := by
  have F1 := ok_is_whole (P := P) (w := w) (base := base) T
  have F2 := ok_is_word (P := P) (w := w) (base := base) T
  have F3 := ok_is_short T F1
  have F4 := ok_write_data T look F2 F3
  have F5 := ok_read_whole (P := P) (w := w) (base := base) T look
  have F6 := ok_pieces_of (P := P) (w := w) (base := base) T
  have F7 := ok_DataReader___init__ (P := P) (w := w) (base := base) T
  have F8 := ok_DataReader_item (P := P) (w := w) (base := base) T
  have F9 := ok_DataReader_open_one (P := P) (w := w) (base := base) T
  have F10 := ok_DataReader_comma (P := P) (w := w) (base := base) T
  have F11 := ok_DataReader_close_one T F8
  have F12 := ok_DataReader_take T F2 F5 F8 F9 F11 F10
  have F13 := ok_read_data T F7 F6 F12
  have F14 := ok_same (P := P) (w := w) (base := base) T
  have F15 := ok_Reply___init__ (P := P) (w := w) (base := base) T
  have F16 := ok_Reply___eq__ T F14
  have F17 := ok_is_text (P := P) (w := w) (base := base) T
  have F18 := ok_write_diary T F17 F2 F4
  have F19 := ok_read_part T F2 F13
  have F20 := ok_read_diary T look F19 F15
  have F21 := ok__law_draw (P := P) (w := w) (base := base) T look
  have F22 := ok__law_take (P := P) (w := w) (base := base) T look
  have F23 := ok__law_data T F22 4
  have F24 := ok__law_is_word (P := P) (w := w) (base := base) T
  have F25 := ok__law_read T F13
  have F26 := ok__law_due T look F24 F25
  have F27 := ok__law_told T F18 F20
  have F28 := ok__law_fits T look F15 F16
  exact ok_law T look D ⟨rfl, by decide, by decide⟩ rfl F21 F22 F23 F4 F15 F27 F26 F28
end W63
open PySem PySem.W PySem.Calls PyProof.Rows
theorem PySem.Challenge.cw_wirewary_k63_whole_texts_of_diaries_holds : PySem.Challenge.rw_wirewary_k63_whole_texts_of_diaries.Holds := by
  w_on; o_law
  refine HandSHeadRun.head_any (r := OpenLaw.row PySem.Challenge.rw_wirewary_k63_whole_texts_of_diaries) (q := view (OpenLaw.row PySem.Challenge.rw_wirewary_k63_whole_texts_of_diaries).prog [36]) (H := W63.hk) (ob := W63.ob) (M := 4000) (loose := W63.names) (d := HandSHeadRun.topDef (OpenLaw.row PySem.Challenge.rw_wirewary_k63_whole_texts_of_diaries).prog 36) (kwd := []) W63.ob_eq
    (by kernel_rfl) (fun s => by kernel_rfl) W63.run (by kernel_rfl) (by kernel_rfl) (by kernel_rfl) (by rfl) (by first | assumption | decide +kernel) (by decide +kernel) ⟨rfl, rfl, rfl, rfl, rfl, by decide +kernel⟩ ?hw ?hc
  case hw => w_witness2
  case hc =>
    refine U.walk_ofG (l := PySem.Challenge.rw_wirewary_k63_whole_texts_of_diaries) (n := 63) (x := "script") rfl (by decide) (by kernel_rfl) ?F
    intro w mg fa h Y G hmg0
    obtain ⟨K, KX, c, look, ex⟩ := Y
    have hmg : mg ("law" : PySem.Str) = some (.ref fa) := by
      have e : (HandSHeadRun.topDef (OpenLaw.row PySem.Challenge.rw_wirewary_k63_whole_texts_of_diaries).prog 36).name = ("law" : PySem.Str) := by kernel_rfl
      rw [← e]
      exact hmg0
    have T := W63.txt_mk KX G c ex
    obtain ⟨fd, D⟩ := T.d_law
    have e := hmg.symm.trans T.g_law
    cases e
    have b := L2.FunD.bindsA (ps := ["script"]) D fun _ _ _ _ _ _ us hl => match us, hl with | [_], _ => rfl
    exact ⟨K, fd, W63.spLaw K, KX, fun s v => b s [v] rfl, fun H a ns hl _ hS => ⟨a, ns, rfl, hS, Nat.le_trans hl (by decide), fun _ => rfl⟩, fun base _ _ => W63.law_ok T look D⟩

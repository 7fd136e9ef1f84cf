import PyProof.Rows.All
import Wide.All
import OpenK.AllK
import Wide.FinOn
import HandS.ForMost
import HandS.ForExc
import HandS.TupAny
import HandS.TupMul
import HandS.IsInst
import HandS.Style
import HandS.Rev
import HandS.RevRange
import HandS.Evl
import PyProof.StrOps2
import PySem.Challenge.RW_narcissus_k03_numbers
set_option Elab.async false
set_option linter.all false
set_option maxRecDepth 100000
set_option maxHeartbeats 4000000
set_option Elab.async false
set_option linter.all false
set_option maxRecDepth 100000
set_option maxHeartbeats 4000000
/-! # universal operators: readings that follow the values -/
namespace NV
open PySem PySem.Spec PyProof.Rows L2
section
variable {X : Cx}
theorem PEwk {e : Expr} {t t' : TE} (h : PE X e t) (w : ∀ σ H Q, t' σ H Q → t σ H Q) : PE X e t' :=
  ⟨fun p s σ H Q I q => h.run p s σ H Q I (w _ _ _ q)⟩
theorem PTwk {e : Expr} {t t' : TT} (h : PT X e t) (w : ∀ σ H Q, t' σ H Q → t σ H Q) : PT X e t' :=
  ⟨fun p s σ H Q I q => h.run p s σ H Q I (w _ _ _ q)⟩
theorem OpWk {f : Value → Value → Sem Value} {r r' : R2} (h : OpR X f r) (w : ∀ x y H Q, r' x y H Q → r x y H Q) : OpR X f r' :=
  fun pins s σ H x y v u Q I rx ry q => h pins s σ H x y v u Q I rx ry (w _ _ _ _ q)
theorem CallWk {f : Value} {r r' : List V → Hp → VK → Prop} (h : CallR X f r) (w : ∀ xs H Q, r' xs H Q → r xs H Q) : CallR X f r' :=
  fun pins s σ H xs us Q I r q => h pins s σ H xs us Q I r (w _ _ _ q)
/-! ### a name -/
def mV (i : Nat) : TE := fun σ H Q => match σ[i]? with
  | some (some v) => Q v H
  | _ => False
theorem nv (i : Nat) {x : Str} {pos : Pos} (hN : X.N[i]? = some x := by rfl) (hv : Vis X.env.scope x := by first | exact Or.inl rfl | exact Or.inr (Or.inl rfl) | exact Or.inr (Or.inr rfl)) (hd : (x == ("__debug__" : Str)) = false := by decide)
    (hcd : (x == ("__classdict__" : Str)) = false := by decide) : PE X (.Name x pos) (mV i) := PEwk (pe_var hN hv hd hcd) fun σ H Q h => by
  unfold mV at h
  split at h
  · exact ⟨_, by assumption, h⟩
  · exact h.elim
/-! ### a list or a tuple that is read -/
def SqA (K : PySem.W.Frag) (H : Hp) (a : Addr) (xs : List V) : Prop := SqL K H a xs ∨ SqT K H a xs
theorem SqA.l {K : PySem.W.Frag} {H : Hp} {a : Addr} {xs : List V} (h : H a = some (.lst xs)) : SqA K H a xs := .inl (.of h)
theorem SqA.t {K : PySem.W.Frag} {H : Hp} {a : Addr} {xs : List V} (h : H a = some (.tup xs)) : SqA K H a xs := .inr (.of h)
/-! ### + - * // % -/
def rAddU (K : PySem.W.Frag) : R2 := fun x y H Q => match x, y with
  | .int i, .int j => Q (.int (i + j)) H
  | .int i, .bl k => Q (.int (i + b2i k)) H
  | .str a, .str b => a.length + b.length ≤ sizeLine ∧ Q (.str (a ++ b)) H
  | .ref a, .ref b => rCat (.ref a) (.ref b) H Q ∨ rCatA K (.ref a) (.ref b) H Q
  | _, _ => False
theorem oAdd {K : PySem.W.Frag} (hK : X.K = K := by rfl) : OpR X (binaryOp .Add) (rAddU K) := fun pins s σ H x y v u Q I rx ry h => by
  subst hK
  cases x <;> cases y <;> first
    | exact op_add pins s σ H _ _ v u Q I rx ry ⟨_, _, rfl, rfl, h⟩
    | exact op_add_ib pins s σ H _ _ v u Q I rx ry ⟨_, _, rfl, rfl, h⟩
    | exact op_add_str pins s σ H _ _ v u Q I rx ry ⟨_, _, rfl, rfl, h.1, h.2⟩
    | exact h.elim (fun h => op_cat pins s σ H _ _ v u Q I rx ry h) (fun h => op_catA pins s σ H _ _ v u Q I rx ry h)
    | exact False.elim h
def rSubU : R2 := fun x y H Q => match x, y with
  | .int i, .int j => Q (.int (i - j)) H
  | _, _ => False
theorem oSub : OpR X (binaryOp .Sub) rSubU := fun pins s σ H x y v u Q I rx ry h => by
  cases x <;> cases y <;> first
    | exact op_sub pins s σ H _ _ v u Q I rx ry ⟨_, _, rfl, rfl, h⟩
    | exact False.elim h
/-- the text z, n times -/
def repS (z : Str) (n : Nat) : Str := ⟨(List.replicate n z.cps.toList).flatten.toArray⟩
theorem foldl_repS (z : List Nat) : ∀ (n : Nat) (acc : List Nat), (List.replicate n z.toArray).foldl (fun x y => x ++ y) acc.toArray = (acc ++ (List.replicate n z).flatten).toArray := by
  intro n
  induction n with
  | zero => intro acc; simp
  | succ n ih =>
    intro acc
    rw [List.replicate_succ, List.foldl_cons, List.append_toArray, ih, List.replicate_succ, List.flatten_cons, List.append_assoc]
def rMulU (K : PySem.W.Frag) : R2 := fun x y H Q => match x, y with
  | .int i, .int j => CMul i j ∧ Q (.int (i * j)) H
  | .str a, .int n => (-(2 ^ 63) < n ∧ n < 2 ^ 62 ∧ a.length * n.toNat ≤ 10000000) ∧ Q (.str (repS a n.toNat)) H
  | .ref a, .int n => rRep (.ref a) (.int n) H Q ∨ rRepT K (.ref a) (.int n) H Q
  | _, _ => False
theorem repS_one (z : Str) : repS z 1 = z := by
  obtain ⟨⟨l⟩⟩ := z
  unfold repS
  rw [List.replicate_one, List.flatten_singleton]
theorem repS_nil (n : Nat) (z : Str) (h : z.length = 0) : repS z n = z := by
  obtain ⟨⟨l⟩⟩ := z
  have e : l = [] := List.length_eq_zero_iff.mp h
  subst e
  unfold repS
  rw [List.flatten_replicate_nil]
theorem repS_length (z : Str) (n : Nat) : (repS z n).length = z.length * n := by
  obtain ⟨⟨l⟩⟩ := z
  show (List.replicate n l).flatten.toArray.size = l.length * n
  rw [List.size_toArray, List.length_flatten, List.map_replicate, List.sum_replicate_nat, Nat.mul_comm]
theorem oMul {K : PySem.W.Frag} (hK : X.K = K := by rfl) : OpR X (binaryOp .Mult) (rMulU K) := fun pins s σ H x y v u Q I rx ry h => by
  subst hK
  cases x <;> cases y <;> first
    | exact op_mul pins s σ H _ _ v u Q I rx ry ⟨_, _, rfl, rfl, h.1, h.2⟩
    | exact h.elim (fun h => op_rep pins s σ H _ _ v u Q I rx ry h) (fun h => op_repT pins s σ H _ _ v u Q I rx ry h)
    | exact False.elim h
    | skip
  rename_i a n
  obtain ⟨⟨h1, h2, h3⟩, q⟩ := h
  obtain ⟨t, rfl⟩ := rx
  obtain ⟨t', rfl⟩ := ry
  have hz : sizeLine = 16777216 := sizeLine_eq
  by_cases hn : n < 1
  · have e : n.toNat = 0 := by omega
    rw [e] at q
    exact PySem.P.mul_str_none hn (by omega) ⟨.str (repS a 0), H, I.tok _, ⟨_, rfl⟩, q⟩
  · refine PySem.P.mul_str (by rw [decide_eq_false (by omega), decide_eq_false (by omega)]; rfl) (fun _ hc => ?_) (fun _ _ => ?_) ?_
    · have hl : 0 < a.length := by
        rw [Bool.or_eq_false_iff] at hc
        have := hc.2
        rw [beq_eq_false_iff_ne] at this
        omega
      intro hgt
      have hn0 : (0 : Int) < n := by omega
      have h5 : (a.length : Int) * n ≤ 10000000 := by
        have e : ((a.length * n.toNat : Nat) : Int) = (a.length : Int) * n := by
          rw [Int.natCast_mul, Int.toNat_of_nonneg (by omega)]
        rw [← e]
        exact Int.ofNat_le.mpr h3
      have h6 : (2 ^ 63 - 1) / n * n ≤ 2 ^ 63 - 1 := Int.ediv_mul_le _ (by omega)
      have h7 : (2 ^ 63 - 1) / n < (a.length : Int) := hgt
      have h9 : n ≤ 10000000 := by
        have : (1 : Int) * n ≤ (a.length : Int) * n := Int.mul_le_mul_of_nonneg_right (by omega) (by omega)
        omega
      have h10 : (a.length : Int) ≤ 10000000 := by
        have : (a.length : Int) * 1 ≤ (a.length : Int) * n := Int.mul_le_mul_of_nonneg_left (by omega) (by omega)
        omega
      have h11 : (2 ^ 63 - 1) / n ≥ 10000000 := by
        refine Int.le_ediv_of_mul_le hn0 ?_
        have : 10000000 * n ≤ 10000000 * 10000000 := Int.mul_le_mul_of_nonneg_left h9 (by omega)
        omega
      omega
    · show decide (a.length * n.toNat > sizeLine) = false
      exact decide_eq_false (by omega)
    · rw [if_neg hn]
      by_cases hc : (n == 1 || a.length == 0) = true
      · rw [if_pos hc]
        have e : repS a n.toNat = a := by
          rw [Bool.or_eq_true] at hc
          rcases hc with hc | hc
          · have : n = 1 := by simpa using hc
            rw [this]
            exact repS_one a
          · exact repS_nil _ _ (by simpa using hc)
        rw [e] at q
        exact ⟨.str a, H, I, ⟨_, rfl⟩, q⟩
      · rw [if_neg hc]
        have e : (⟨(List.replicate n.toNat a.cps).foldl (· ++ ·) #[]⟩ : Str) = repS a n.toNat := by
          have := foldl_repS a.cps.toList n.toNat []
          rw [List.nil_append] at this
          unfold repS
          rw [← this]
        rw [e]
        exact ⟨by rw [repS_length]; omega, .str (repS a n.toNat), H, I.tok _, ⟨_, rfl⟩, q⟩
def rDivU : R2 := fun x y H Q => match x, y with
  | .int i, .int j => CDiv i j ∧ Q (.int (i / j)) H
  | _, _ => False
theorem oDiv : OpR X (binaryOp .FloorDiv) rDivU := fun pins s σ H x y v u Q I rx ry h => by
  cases x <;> cases y <;> first
    | exact op_fdiv pins s σ H _ _ v u Q I rx ry ⟨_, _, rfl, rfl, h.1, h.2⟩
    | exact False.elim h
def rModU : R2 := fun x y H Q => match x, y with
  | .int i, .int j => 0 < j ∧ Q (.int (i % j)) H
  | _, _ => False
theorem oMod : OpR X (binaryOp .Mod) rModU := fun pins s σ H x y v u Q I rx ry h => by
  cases x <;> cases y <;> first
    | exact op_mod pins s σ H _ _ v u Q I rx ry ⟨_, _, rfl, rfl, h.1, h.2⟩
    | exact False.elim h
/-! ### comparisons -/
def rEqU (K : PySem.W.Frag) : R2 := fun x y H Q => match scal x y with
  | true => Q (.bl (decide (x = y))) H
  | false => rEqD K x y H Q
theorem oEq {K : PySem.W.Frag} (hu : X.A.units + 64 < cLine) (hK : X.K = K := by rfl) : OpR X (compareOp .Eq) (rEqU K) := fun pins s σ H x y v u Q I rx ry h => by
  subst hK
  unfold rEqU at h
  cases e : scal x y with
  | true => rw [e] at h; exact op_eq pins s σ H _ _ v u Q I rx ry ⟨e, h⟩
  | false => rw [e] at h; exact op_eqD hu pins s σ H _ _ v u Q I rx ry h
def rNeU (K : PySem.W.Frag) : R2 := fun x y H Q => match scal x y with
  | true => Q (.bl (!decide (x = y))) H
  | false => rNeD K x y H Q
theorem oNe {K : PySem.W.Frag} (hu : X.A.units + 64 < cLine) (hK : X.K = K := by rfl) : OpR X (compareOp .NotEq) (rNeU K) := fun pins s σ H x y v u Q I rx ry h => by
  subst hK
  unfold rNeU at h
  cases e : scal x y with
  | true => rw [e] at h; exact op_ne pins s σ H _ _ v u Q I rx ry ⟨e, h⟩
  | false => rw [e] at h; exact op_neD hu pins s σ H _ _ v u Q I rx ry h
def rCI (p : Int → Int → Bool) : R2 := fun x y H Q => match x, y with
  | .int i, .int j => Q (.bl (p i j)) H
  | _, _ => False
theorem oLt : OpR X (compareOp .Lt) (rCI fun i j => decide (i < j)) := fun pins s σ H x y v u Q I rx ry h => by
  cases x <;> cases y <;> first
    | exact op_lt pins s σ H _ _ v u Q I rx ry ⟨_, _, rfl, rfl, h⟩
    | exact False.elim h
theorem oLe : OpR X (compareOp .LtE) (rCI fun i j => decide (i ≤ j)) := fun pins s σ H x y v u Q I rx ry h => by
  cases x <;> cases y <;> first
    | exact op_le pins s σ H _ _ v u Q I rx ry ⟨_, _, rfl, rfl, h⟩
    | exact False.elim h
theorem oGt : OpR X (compareOp .Gt) (rCI fun i j => decide (j < i)) := fun pins s σ H x y v u Q I rx ry h => by
  cases x <;> cases y <;> first
    | exact op_gt pins s σ H _ _ v u Q I rx ry ⟨_, _, rfl, rfl, h⟩
    | exact False.elim h
theorem oGe : OpR X (compareOp .GtE) (rCI fun i j => decide (j ≤ i)) := fun pins s σ H x y v u Q I rx ry h => by
  cases x <;> cases y <;> first
    | exact op_ge pins s σ H _ _ v u Q I rx ry ⟨_, _, rfl, rfl, h⟩
    | exact False.elim h
def rIsU : R2 := fun x y H Q => match x, y with
  | .bl a, .bl b => Q (.bl (decide (a = b))) H
  | _, .non => Q (.bl (decide (x = .non))) H
  | _, _ => False
theorem oIs : OpR X (compareOp .Is) rIsU := fun pins s σ H x y v u Q I rx ry h => by
  cases y with
  | non => exact op_isN pins s σ H _ _ v u Q I rx ry ⟨rfl, by cases x <;> exact h⟩
  | bl b =>
    cases x with
    | bl a => exact op_isBl pins s σ H _ _ v u Q I rx ry ⟨a, b, rfl, rfl, h⟩
    | _ => exact False.elim h
  | _ => cases x <;> exact False.elim h
def rIsNotU : R2 := fun x y H Q => match x, y with
  | .bl a, .bl b => Q (.bl (!decide (a = b))) H
  | _, .non => Q (.bl (!decide (x = .non))) H
  | _, _ => False
theorem oIsNot : OpR X (compareOp .IsNot) rIsNotU := fun pins s σ H x y v u Q I rx ry h => by
  cases y with
  | non => exact op_notN pins s σ H _ _ v u Q I rx ry ⟨rfl, by cases x <;> exact h⟩
  | bl b =>
    cases x with
    | bl a => exact op_notBl pins s σ H _ _ v u Q I rx ry ⟨a, b, rfl, rfl, h⟩
    | _ => exact False.elim h
  | _ => cases x <;> exact False.elim h
def rInU (K : PySem.W.Frag) : R2 := fun x y H Q => match y with
  | .str z => ∃ c, x = .str ⟨#[c]⟩ ∧ Q (.bl (decide (c ∈ z.cps.toList))) H
  | .ref p => ∃ xs, SqA K H p xs ∧ flatV x = true ∧ xs.all flatV = true ∧ Q (.bl (inV x xs)) H
  | _ => False
theorem oIn {K : PySem.W.Frag} (hK : X.K = K := by rfl) : OpR X (compareOp .In) (rInU K) := fun pins s σ H x y v u Q I rx ry h => by
  subst hK
  cases y with
  | str z =>
    obtain ⟨c, e, q⟩ := h
    exact op_in_sign pins s σ H _ _ v u Q I rx ry ⟨c, z, e, rfl, q⟩
  | ref p =>
    obtain ⟨xs, hs, h1, h2, q⟩ := h
    exact op_in_seq pins s σ H _ _ v u Q I rx ry ⟨p, xs, rfl, hs, h1, h2, q⟩
  | _ => exact False.elim h
def rNotInU (K : PySem.W.Frag) : R2 := fun x y H Q => match y with
  | .str z => ∃ c, x = .str ⟨#[c]⟩ ∧ Q (.bl (!decide (c ∈ z.cps.toList))) H
  | .ref p => ∃ xs, SqA K H p xs ∧ flatV x = true ∧ xs.all flatV = true ∧ Q (.bl (!inV x xs)) H
  | _ => False
theorem oNotIn {K : PySem.W.Frag} (hK : X.K = K := by rfl) : OpR X (compareOp .NotIn) (rNotInU K) := fun pins s σ H x y v u Q I rx ry h => by
  subst hK
  cases y with
  | str z =>
    obtain ⟨c, e, q⟩ := h
    exact op_notIn_sign pins s σ H _ _ v u Q I rx ry ⟨c, z, e, rfl, q⟩
  | ref p =>
    obtain ⟨xs, hs, h1, h2, q⟩ := h
    exact op_notIn_seq pins s σ H _ _ v u Q I rx ry ⟨p, xs, rfl, hs, h1, h2, q⟩
  | _ => exact False.elim h
/-- in a tuple of tuples -/
def rInDT (K : PySem.W.Frag) : R2 := fun x y H Q => ∃ d ds, Dp K H x d ∧ Dp K H y (.tuple ds) ∧ SeqAt.shaped d = true ∧ SeqAt.shaped (.tuple ds) = true ∧ Q (.bl (ds.any fun z => PyData.eqv z d)) H
theorem oInD {K : PySem.W.Frag} {k : Nat} (hr : Room k X.A) (hK : X.K = K := by rfl) : OpR X (compareOp .In) (rInDT K) := by
  subst hK
  intro pins s σ H x y v u Q I rx ry h
  obtain ⟨d, ds, hd, he, sd, se, q⟩ := h
  obtain ⟨as, r1⟩ := Dp.reads I d x v hd rx
  obtain ⟨bs, r2⟩ := Dp.reads I (.tuple ds) y u he ry
  exact SeqAt.in_tuple_reads r2 r1 (SeqAt.canLay_of_shaped se) (SeqAt.canLay_of_shaped sd) (room_in_shaped sd (by have := hr.un; omega)) ⟨.bl _, H, I, rfl, q⟩
/-! ### x[i], x[a:b] -/
def rIxU (K : PySem.W.Frag) : R2 := fun x y H Q => match x, y with
  | .str z, .int i => z.length ≤ sizeLine ∧ ∃ c, atI z.cps.toList i = some c ∧ Q (.str ⟨#[c]⟩) H
  | .ref p, .int i => ∃ xs v, SqA K H p xs ∧ atI xs i = some v ∧ Q v H
  | _, _ => False
theorem ixU {K : PySem.W.Frag} (hK : X.K = K := by rfl) : IxR X (rIxU K) := fun a b pins s σ H x y v u Q I rx ry h hs => by
  subst hK
  refine ix_seq a b pins s σ H x y v u Q I rx ry ?_ hs
  cases x <;> cases y <;> first
    | (exact False.elim h)
    | (obtain ⟨hz, c, e, q⟩ := h; exact Or.inr (Or.inr ⟨_, _, c, rfl, rfl, hz, e, q⟩))
    | (obtain ⟨xs, v, hq, e, q⟩ := h
       rcases hq with hq | hq
       · exact Or.inl ⟨_, xs, _, v, rfl, rfl, hq, e, q⟩
       · exact Or.inr (Or.inl ⟨_, xs, _, v, rfl, rfl, hq, e, q⟩))
def rSlU (K : PySem.W.Frag) : V → Option Int → Option Int → Hp → VK → Prop := fun x lo hi H Q => match x with
  | .str z => z.length ≤ sizeLine ∧ Q (.str (cutS z lo hi)) H
  | .ref a => rSlL K (.ref a) lo hi H Q ∨ rSlA K (.ref a) lo hi H Q
  | _ => False
theorem slU {K : PySem.W.Frag} (hK : X.K = K := by rfl) : SlR X (rSlU K) := by
  subst hK
  intro pins s σ H x v vl vu lo hi sl Q I rx hs pl pu h
  cases x with
  | str z => exact sl_str pins s σ H _ v vl vu lo hi sl Q I rx hs pl pu ⟨z, rfl, h.1, h.2⟩
  | ref a =>
    rcases h with h | h
    · exact sl_list pins s σ H _ v vl vu lo hi sl Q I rx hs pl pu h
    · exact sl_tupA pins s σ H _ v vl vu lo hi sl Q I rx hs pl pu h
  | _ => exact False.elim h
/-! ### built-in calls -/
def rLenU (K : PySem.W.Frag) : List V → Hp → VK → Prop := fun vs H Q => match vs with
  | [.str z] => z.length ≤ sizeLine ∧ Q (.int z.length) H
  | [.ref p] => ∃ xs, SqA K H p xs ∧ Q (.int xs.length) H
  | _ => False
theorem cLen {K : PySem.W.Frag} (hK : X.K = K := by rfl) : CallR X (.builtin "len") (rLenU K) := by
  subst hK
  refine CallWk call_len ?_
  intro vs H Q h
  unfold rLenU at h
  split at h
  · exact ⟨_, _, rfl, ⟨h.1, rfl⟩, h.2⟩
  · obtain ⟨xs, hq, q⟩ := h
    rcases hq with hq | hq
    · exact ⟨_, _, rfl, .inl ⟨xs, hq, rfl⟩, q⟩
    · exact ⟨_, _, rfl, .inr ⟨xs, hq, rfl⟩, q⟩
  · exact h.elim
def rIntU : List V → Hp → VK → Prop := fun vs H Q => match vs with
  | [.int i] => Q (.int i) H
  | [.bl k] => Q (.int (if k then 1 else 0)) H
  | _ => False
theorem cInt : CallR X (.type "int") rIntU := CallWk call_int1 fun vs H Q h => by
  unfold rIntU at h
  split at h
  · exact .inl ⟨_, rfl, h⟩
  · exact .inr ⟨_, rfl, h⟩
  · exact h.elim
def rAbsU : List V → Hp → VK → Prop := fun vs H Q => match vs with
  | [.int i] => Q (.int (if i < 0 then -i else i)) H
  | _ => False
theorem cAbs : CallR X (.builtin "abs") rAbsU := CallWk call_abs fun vs H Q h => by
  unfold rAbsU at h
  split at h
  · exact ⟨_, rfl, h⟩
  · exact h.elim
def rListU (K : PySem.W.Frag) : List V → Hp → VK → Prop := fun vs H Q => match vs with
  | [.ref p] => ∃ ys, SqA K H p ys ∧ ∀ l, H l = none → Q (.ref l) (upd H l (.lst ys))
  | _ => False
theorem cList {K : PySem.W.Frag} (hK : X.K = K := by rfl) : CallR X (.type "list") (rListU K) := by
  subst hK
  refine CallWk call_list_of ?_
  intro vs H Q h
  unfold rListU at h
  split at h
  · obtain ⟨ys, hq, q⟩ := h
    exact ⟨_, ys, rfl, hq, q⟩
  · exact h.elim
def rTupU (K : PySem.W.Frag) : List V → Hp → VK → Prop := fun vs H Q => match vs with
  | [.ref p] => ∃ ys, SqL K H p ys ∧ ∀ l, H l = none → Q (.ref l) (upd H l (.tup ys))
  | _ => False
theorem cTup {K : PySem.W.Frag} (hK : X.K = K := by rfl) : CallR X (.type "tuple") (rTupU K) := by
  subst hK
  refine CallWk call_tuple_of ?_
  intro vs H Q h
  unfold rTupU at h
  split at h
  · obtain ⟨ys, hq, q⟩ := h
    exact ⟨_, ys, rfl, .inl ⟨hq, q⟩⟩
  · exact h.elim
/-- isinstance(x, T), T a built-in class -/
def rIsiU (K : PySem.W.Frag) : List V → Hp → VK → Prop := fun vs H Q => match vs with
  | [.non, .ty n] => ∃ b, kitB "NoneType" n = some b ∧ Q (.bl b) H
  | [.bl _, .ty n] => ∃ b, kitB "bool" n = some b ∧ Q (.bl b) H
  | [.int _, .ty n] => ∃ b, kitB "int" n = some b ∧ Q (.bl b) H
  | [.str _, .ty n] => ∃ b, kitB "str" n = some b ∧ Q (.bl b) H
  | [.ref p, .ty n] => ∃ T b, TyX K H (.ref p) (.type T) ∧ kitB T n = some b ∧ Q (.bl b) H
  | _ => False
theorem cIsi {K : PySem.W.Frag} (hK : X.K = K := by rfl) : CallR X (.builtin "isinstance") (rIsiU K) := by
  subst hK
  refine CallWk call_isi ?_
  intro vs H Q h
  unfold rIsiU at h
  split at h
  · obtain ⟨b, e, q⟩ := h; exact ⟨_, _, _, _, b, rfl, .ty _, .base .non, kit_ty e, q⟩
  · obtain ⟨b, e, q⟩ := h; exact ⟨_, _, _, _, b, rfl, .ty _, .base (.bl _), kit_ty e, q⟩
  · obtain ⟨b, e, q⟩ := h; exact ⟨_, _, _, _, b, rfl, .ty _, .base (.int _), kit_ty e, q⟩
  · obtain ⟨b, e, q⟩ := h; exact ⟨_, _, _, _, b, rfl, .ty _, .base (.str _), kit_ty e, q⟩
  · obtain ⟨T, b, ty, e, q⟩ := h; exact ⟨_, _, _, _, b, rfl, .ty _, ty, kit_ty e, q⟩
  · exact h.elim
/-! ### tests -/
/-- a bool as a test -/
def mT (t : TE) : TT := fun σ H Q => t σ H fun x H' => match x with
  | .bl b => Q b H'
  | _ => False
theorem isB (Q : Bool → Hp → Prop) : (fun (x : V) (H' : Hp) => match x with | .bl b => Q b H' | _ => False) = (fun x H' => ∃ k, x = .bl k ∧ Q k H') := by
  funext x H'
  cases x with
  | bl b => exact propext ⟨fun h => ⟨b, rfl, h⟩, fun ⟨k, e, h⟩ => by cases e; exact h⟩
  | _ => exact propext ⟨fun h => h.elim, fun ⟨k, e, h⟩ => by cases e⟩
theorem nCmp {a b : Expr} {op : CmpOp} {r : R2} {ta tb : TE} {pos : Pos} (ho : OpR X (compareOp op) r) (ha : PE X a ta) (hb : PE X b tb) (hm : behindInMarks op b = false) : PT X (.Compare a [op] [b] pos) (mT (tOp r ta tb)) :=
  PTwk (pt_cmpR ho ha hb hm) fun σ H Q h => by
    unfold mT at h
    rw [isB] at h
    exact h
theorem nVal {e : Expr} {te : TE} (h : PE X e te) (he : ∀ whole, isTrue e X.env whole = (do let v ← whole; standAt e.pos; holding [v] (truthy v)) := by intro _; rfl) : PT X e (mT te) :=
  PTwk (pt_val h he) fun σ H Q h => by
    unfold mT at h
    rw [isB] at h
    exact h
/-! ### what a for walks -/
def iAnyU (K : PySem.W.Frag) (te : TE) : TI := fun σ H R => te σ H fun v H1 => match v with
  | .str z => R (Its z) H1
  | .ref a => ((∃ xs, SqL K H1 a xs) ∧ R (Itl K a) H1) ∨ ((∃ xs, SqT K H1 a xs) ∧ R (Itt K a) H1)
  | _ => False
theorem PIwk {tg iter : Expr} {w w' : TI} (h : PI X tg iter w) (k : ∀ σ H R, w' σ H R → w σ H R) : PI X tg iter w' := ⟨fun p s σ H R I q => h.run p s σ H R I (k _ _ _ q)⟩
theorem piAny {K : PySem.W.Frag} {tg e : Expr} {te : TE} (he : PE X e te) (hK : X.K = K := by rfl) : PI X tg e (iAnyU K te) := by
  subst hK
  refine ⟨fun pins s σ H R I h => ?_⟩
  -- the value is found first; what walks it follows its kind
  have key : ∀ (v : V) (H1 : Hp) (u : Value) (s1 : Shared), Inv X pins σ H1 s1 → RelV v u → (match v with
      | .str z => R (Its z) H1
      | .ref a => ((∃ xs, SqL X.K H1 a xs) ∧ R (Itl X.K a) H1) ∨ ((∃ xs, SqT X.K H1 a xs) ∧ R (Itt X.K a) H1)
      | _ => False) → wpAny (model X.prog X.w) X.A (pyIter u) (PIE X pins σ tg R) X.xe s1 := by
    intro v H1 u s1 I1 r1 q
    cases v with
    | str x =>
      obtain ⟨t, rfl⟩ := r1
      cases ha : x.cps.all (· < 128)
      · exact wpAny_pyIter_wide ha (pi_one (tk := s1.toks) I1 _ (turn_str _ x t "str_iterator" (.inr rfl)) ⟨_, Heap.get?_push_size _ rfl, rfl, rfl⟩ q)
      · exact wpAny_pyIter_ascii ha (pi_one (tk := s1.toks) I1 _ (turn_str _ x t "str_ascii_iterator" (.inl rfl)) ⟨_, Heap.get?_push_size _ rfl, rfl, rfl⟩ q)
    | ref a =>
      cases r1
      rcases q with ⟨⟨xs, hq⟩, q⟩ | ⟨⟨xs, hq⟩, q⟩
      · obtain ⟨its, rv, pl, hz⟩ := I1.list hq
        exact wpAny_pyIter_list pl.isList (pi_one (tk := s1.toks) I1 _ (turn_list a _) ⟨_, Heap.get?_push_size _ rfl, rfl, rfl⟩ q)
      · obtain ⟨its, rv, pl, hz⟩ := I1.tuple hq
        exact wpAny_pyIter_tuple (show s1.heap.IsTuple a its.toArray from pl) (pi_one (tk := s1.toks) I1 _ (turn_tuple a _) ⟨_, Heap.get?_push_size _ rfl, rfl, rfl⟩ q)
    | _ => exact q.elim
  refine thn (he.run pins s σ H _ I h) fun u s1 ⟨v, H1, I1, r1, q⟩ => key v H1 u s1 I1 r1 q
/-! ### a module's constant -/
theorem nGlobI {x : Str} {i : Int} {pos : Pos} (hm : ∃ t, X.mg x = some (.int i t)) (hg : Gl X x := by rfl) (hd : (x == ("__debug__" : Str)) = false := by decide) : PE X (.Name x pos) (tC (.int i)) := by
  obtain ⟨t, hm⟩ := hm
  exact pe_glob hg hm ⟨t, rfl⟩ hd
theorem nGlobS {x z : Str} {pos : Pos} (hm : ∃ t, X.mg x = some (.str z t)) (hg : Gl X x := by rfl) (hd : (x == ("__debug__" : Str)) = false := by decide) : PE X (.Name x pos) (tC (.str z)) := by
  obtain ⟨t, hm⟩ := hm
  exact pe_glob hg hm ⟨t, rfl⟩ hd
/-- a tuple of the module's top -/
def GTup (K : PySem.W.Frag) (mg : Str → Option Value) (x : Str) (xs : List V) : Prop := ∃ a, mg x = some (.ref a) ∧ ∀ H, SqT K H a xs
def mGT (K : PySem.W.Frag) (xs : List V) : TE := fun _ H Q => ∀ a, (∀ H, SqT K H a xs) → Q (.ref a) H
theorem nGlobT {x : Str} {xs : List V} {pos : Pos} (hm : GTup X.K X.mg x xs) (hg : Gl X x := by rfl) (hd : (x == ("__debug__" : Str)) = false := by decide) : PE X (.Name x pos) (mGT X.K xs) := by
  obtain ⟨a, hm, hs⟩ := hm
  exact PEwk (pe_glob hg hm (v := .ref a) rfl hd) fun σ H Q h => h a hs
theorem nTy {x : Str} {T : String} {pos : Pos} (hm : X.mg x = none) (hv : bootBuiltins x = some (.type T)) (hg : Gl X x := by rfl) (hn : x ≠ "__name__" := by decide) (hd : (x == ("__debug__" : Str)) = false := by decide) : PE X (.Name x pos) (tC (.ty T)) := pe_bltn hg hm hv (v := .ty T) rfl hn hd
/-! ### exceptions of own classes over ValueError -/
structure ExcC (K : PySem.W.Frag) (mg : Str → Option Value) (x : Str) : Prop where
  ex : ∃ C, mg x = some (.ref C) ∧ PySem.W.excIn K C [.type "ValueError", .type "Exception", .type "BaseException", .type "object"] "ValueError.__new__" = true ∧ PySem.W.keepIn K (.ref C) = true ∧
    PySem.W.subIn K (.ref C) (.type "BaseException") = some true ∧ PySem.W.typeIn K (.ref C) = some (.type "type")
/-- raise X('..') -/
theorem nMk {x m : Str} {j : Nat} {p p2 pos : Pos} (h : ExcC X.K X.mg x) (hg : Gl X x := by rfl) (hdb : (x == ("__debug__" : Str)) = false := by decide) : PMk X (.Call (.Name x p) [.Constant (.str m) j p2] [] pos) (fun _ H Q => ∀ cls, X.mg x = some cls → Q cls none H) := by
  obtain ⟨C, g, e, kp, sb, ty⟩ := h.ex
  intro pins s σ H Q I q
  exact pmk_own PySem.F.excBase_ValueError e g kp (raises_own sb ty) hg hdb pins s σ H Q I (q _ g)
/-- try: .. except X: .. -/
theorem nTryOnly {x : Str} {body suite : List Stmt} {b₀ : Stmt} {np pos pos' : Pos} {tb : WX → TS} {ts : Addr → Value → Option Addr → TS} {Wout : WX} (hs : X.stack = X.env :: X.outer) (hf : X.env.frame = some X.env.locals) (hx : ExcC X.K X.mg x) (tk : Takes X Wout)
    (hb : ∀ (W : WX) (pn : List (Addr × Obj)) (xe : Value → Shared → Prop), Takes (X.tr pn xe) W → PassesOwn (model X.prog X.w) X.A X.env xe → PSs (X.tr pn xe) body (tb W))
    (hsu : ∀ (a : Addr) (oe : Obj) (cls : Value) (d : Option Addr) (pn : List (Addr × Obj)), Zc cls d oe → (∃ vs, oe.data = .fields vs) → PSs (X.suite a ((a, oe) :: pn)) (b₀ :: suite) (ts a cls d)) (hg : Gl X x := by rfl) (hdb : (x == ("__debug__" : Str)) = false := by decide) :
    PS X (.Try body [.ExceptHandler (some (.Name x np)) none (b₀ :: suite) pos'] [] [] pos) (fun D σ H => ∀ c, X.mg x = some c → tb (wOnly X.K c ts Wout D) D σ H) := by
  obtain ⟨C, g, e, kp, sb, ty⟩ := hx.ex
  refine ⟨fun pins s σ H D I h => ?_⟩
  exact (ps_try_only hs hf ⟨hg, hdb, .inl g⟩ tk hb hsu).run pins s σ H D I (h _ g)
theorem nTryAs {x n : Str} {i : Nat} {body suite : List Stmt} {b₀ : Stmt} {np pos pos' : Pos} {tb : WX → TS} {ts : Addr → Value → Option Addr → TS} {Wout : WX} (hs : X.stack = X.env :: X.outer) (hf : X.env.frame = some X.env.locals) (hN : X.N.Nodup) (hi : X.N[i]? = some n) (hln : X.env.kindOf n = some .local) (hx : ExcC X.K X.mg x) (tk : Takes X Wout)
    (hb : ∀ (W : WX) (pn : List (Addr × Obj)) (xe : Value → Shared → Prop), Takes (X.tr pn xe) W → PassesOwn (model X.prog X.w) X.A X.env xe → PSs (X.tr pn xe) body (tb W))
    (hsu : ∀ (a : Addr) (oe : Obj) (cls : Value) (d : Option Addr) (pn : List (Addr × Obj)), Zc cls d oe → (∃ vs, oe.data = .fields vs) → PSs (X.suite a ((a, oe) :: pn)) (b₀ :: suite) (ts a cls d)) (hg : Gl X x := by rfl) (hdb : (x == ("__debug__" : Str)) = false := by decide) :
    PS X (.Try body [.ExceptHandler (some (.Name x np)) (some n) (b₀ :: suite) pos'] [] [] pos) (fun D σ H => ∀ c, X.mg x = some c → tb (wAs X.K c i ts Wout D) D σ H) := by
  obtain ⟨C, g, e, kp, sb, ty⟩ := hx.ex
  refine ⟨fun pins s σ H D I h => ?_⟩
  exact (ps_try_as hs hf hN hi hln ⟨hg, hdb, .inl g⟩ tk hb hsu).run pins s σ H D I (h _ g)
/-- what an except clause of Y says of an exception of the class X -/
def ExM (K : PySem.W.Frag) (mg : Str → Option Value) (x y : Str) (b : Bool) : Prop := ∀ c1 c2, mg x = some c1 → mg y = some c2 → PySem.W.exmOne K c1 c2 = some b
theorem exm_mk {K : PySem.W.Frag} {h : Heap} {mg : Str → Option Value} (X : K.In h) (G : h.Ns mainGlobals mg) {x y : Str} {b : Bool} {C S : Addr} (a1 : PySem.W.nsIn K mainGlobals x = some (some (.ref C))) (a2 : PySem.W.nsIn K mainGlobals y = some (some (.ref S)))
    (h1 : PySem.W.subIn K (.ref S) (.type "BaseException") = some true) (h2 : PySem.W.isClsIn K S = true) (h3 : PySem.W.typeIn K (.ref S) = some (.type "type")) (h4 : PySem.W.subIn K (.ref C) (.ref S) = some b) : ExM K mg x y b := by
  intro c1 c2 e1 e2
  have f1 := PySem.W.mg_of X G a1
  have f2 := PySem.W.mg_of X G a2
  rw [f1] at e1
  rw [f2] at e2
  cases e1
  cases e2
  have q1 : (PySem.W.subIn K (.ref S) (.type "BaseException") == some true) = true := by rw [h1]; rfl
  have q2 : ((PySem.W.clsIn K S).isSome && PySem.W.typeIn K (.ref S) == some (.type "type")) = true := by
    have z : (PySem.W.clsIn K S).isSome = true := h2
    rw [z, h3]; rfl
  show (if (PySem.W.subIn K (.ref S) (.type "BaseException") == some true) = true then (if ((PySem.W.clsIn K S).isSome && PySem.W.typeIn K (.ref S) == some (.type "type")) = true then PySem.W.subIn K (.ref C) (.ref S) else none) else none) = some b
  rw [if_pos q1, if_pos q2]
  exact h4
/-! ### a def that is called -/
end
/-- a def of the top that keeps a promise -/
def Cal (P : Program) (w : World) (K : PySem.W.Frag) (mg : Str → Option Value) (base : Heap) (CX : CXT) (k : Nat) (x : Str) (ps : List Str) (sp : Sp) : Prop :=
  ∃ f fd, mg x = some (.ref f) ∧ PySem.W.keepIn K (.ref f) = true ∧ Binds K fd ps [] ∧ FnOk P w K mg base CX k f fd ps sp
/-- a def of the text, as the top has left it -/
def Fn (K : PySem.W.Frag) (mg : Str → Option Value) (g x : Str) (st : Stmt) (ps : List Str) : Prop :=
  ∃ f fd, mg g = some (.ref f) ∧ Fun K x x st f fd ∧ Binds K fd ps []
section
variable {P : Program} {w : World} {K : PySem.W.Frag} {mg : Str → Option Value} {base : Heap}
theorem Fn.ok {g x : Str} {st : Stmt} {N ps : List Str} {k : Nat} {sp : Sp} (F : Fn K mg g x st ps) (S : FnScope N ps (defScope st)) (len : ∀ vs H Q E, sp vs H Q E → vs.length = ps.length)
    (hbody : ∀ (f : Addr) (cdv : Value) (A : Around) (outer : List Env) (s : Shared) (H : Hp) (vs : List V) (Q : VK) (E : XK), Room k (A.deeper (envOfC x (defScope st) s.heap.objs.size f cdv)) → sp vs H Q E →
      ∃ t, PSs (cxOf CX0 P w K mg base N x (defScope st) f cdv A outer s H E).nox (defBody st) t ∧ t { nx := fun _ H' => Q .non H', rt := Q } (start N vs) H) : Cal P w K mg base CX0 (k + 1) g ps sp := by
  obtain ⟨f, fd, hm, F, b⟩ := F
  exact ⟨f, fd, hm, F.kp, b, F.ok S len fun cdv A outer s H vs Q E hr h => hbody f cdv A outer s H vs Q E hr h⟩
theorem Fn.okX {g x : Str} {st : Stmt} {N ps : List Str} {k : Nat} {sp : Sp} (F : Fn K mg g x st ps) (S : FnScope N ps (defScope st)) (len : ∀ vs H Q E, sp vs H Q E → vs.length = ps.length)
    (hbody : ∀ (f : Addr) (cdv : Value) (A : Around) (outer : List Env) (s : Shared) (H : Hp) (vs : List V) (Q : VK) (E : XK), Room k (A.deeper (envOfC x (defScope st) s.heap.objs.size f cdv)) → sp vs H Q E →
      ∃ t, PSs (cxOf (L2.CX P w) P w K mg base N x (defScope st) f cdv A outer s H E) (defBody st) t ∧ t { nx := fun _ H' => Q .non H', rt := Q } (start N vs) H) : Cal P w K mg base (L2.CX P w) (k + 1) g ps sp := by
  obtain ⟨f, fd, hm, F, b⟩ := F
  exact ⟨f, fd, hm, F.kp, b, F.okX S len fun cdv A outer s H vs Q E hr h => hbody f cdv A outer s H vs Q E hr h⟩
theorem fn_mk {h : Heap} (X : K.In h) (G : h.Ns mainGlobals mg) {g x : Str} {st : Stmt} {ps : List Str} {f : Addr} {oc : Value} {od an : Option Addr} {osl : Array (Option Value)} {kV doc pm cdv ct : Value} (a : PySem.W.nsIn K mainGlobals g = some (some (.ref f)))
    (l : K.lookup f = some ⟨oc, od, .func (PySem.W.fnOf x x (defArgs st) (defBody st) (defScope st) .none kV doc pm an cdv ct), osl⟩) (c : PySem.W.codeIn K cdv x = true) (k : PySem.W.keepIn K (.ref f) = true)
    (b : ∀ (kV doc pm : Value) (an : Option Addr) (cdv ct : Value) (us : List Value), us.length = ps.length → bindArgs (PySem.W.fnOf x x (defArgs st) (defBody st) (defScope st) .none kV doc pm an cdv ct) ⟨us, []⟩ = pure (ps.zip us)) : Fn K mg g x st ps :=
  ⟨f, _, PySem.W.mg_of X G a, L2.fun_mk l c k, (L2.fun_mk l c k).binds b⟩
theorem Cal.imp {CX : CXT} {k : Nat} {x : Str} {ps : List Str} {sp sp' : Sp} (C : Cal P w K mg base CX k x ps sp) (h : ∀ vs H Q E, sp' vs H Q E → sp vs H Q E) : Cal P w K mg base CX k x ps sp' := by
  obtain ⟨f, fd, hm, kp, b, F⟩ := C
  exact ⟨f, fd, hm, kp, b, F.imp h⟩
theorem Cal.mono {CX : CXT} {j k : Nat} {x : Str} {ps : List Str} {sp : Sp} (C : Cal P w K mg base CX j x ps sp) (h : j ≤ k) : Cal P w K mg base CX k x ps sp := by
  obtain ⟨f, fd, hm, kp, b, F⟩ := C
  exact ⟨f, fd, hm, kp, b, F.mono h⟩
end
section
variable {X : Cx} {CX : CXT} {k : Nat} {ps : List Str} {sp : Sp} {E : XK} {x : Str} {p pos : Pos} {e : Expr} {es : List Expr} {t : TA}
/-- f(..) -/
def mCall (sp : Sp) (E : XK) (t : TA) : TE := fun σ H Q => t σ H fun vs H1 => sp vs H1 Q E
theorem nCall (C : Cal X.prog X.w X.K X.mg X.base CX k x ps sp) (hr : Room k X.A) (hx : Passes CX X E) (ha : PA X (e :: es) t) (hg : Gl X x := by rfl) (hdb : (x == ("__debug__" : Str)) = false := by decide)
    (he : starEach (e :: es) X.env = (false, eval e X.env) :: starEach es X.env := by rfl) (hpl : (backTo pos (starEach es X.env)).any (·.1) = false := by rfl) : PE X (.Call (.Name x p) (e :: es) [] pos) (mCall sp E t) := by
  obtain ⟨f, fd, hm, kp, b, F⟩ := C
  refine ⟨fun pins s σ H Q I h => ?_⟩
  refine (pe_call F hr hg hm kp b .nil hx ha hdb he hpl).run pins s σ H Q I ?_
  have e : (fun vs H1 => sp (vs ++ []) H1 Q E) = fun vs H1 => sp vs H1 Q E := by
    funext vs H1
    rw [List.append_nil]
  show t σ H fun vs H1 => sp (vs ++ []) H1 Q E
  rw [e]
  exact h
/-- f(..), what is raised told at the slots -/
def mCallS (sp : Sp) (E : L2.St → XK) (t : TA) : TE := fun σ H Q => t σ H fun vs H1 => sp vs H1 Q (E σ)
theorem nCallS {E : L2.St → XK} (C : Cal X.prog X.w X.K X.mg X.base CX k x ps sp) (hr : Room k X.A) (hx : ∀ σ, PassesAt CX X σ (E σ)) (ha : PA X (e :: es) t) (hg : Gl X x := by rfl) (hdb : (x == ("__debug__" : Str)) = false := by decide)
    (he : starEach (e :: es) X.env = (false, eval e X.env) :: starEach es X.env := by rfl) (hpl : (backTo pos (starEach es X.env)).any (·.1) = false := by rfl) : PE X (.Call (.Name x p) (e :: es) [] pos) (mCallS sp E t) := by
  obtain ⟨f, fd, hm, kp, b, F⟩ := C
  exact pe_callS F hr hg hm kp b hx ha hdb he hpl
theorem nCall0 (C : Cal X.prog X.w X.K X.mg X.base CX k x ps sp) (hr : Room k X.A) (hx : Passes CX X E) (hg : Gl X x := by rfl) (hdb : (x == ("__debug__" : Str)) = false := by decide) : PE X (.Call (.Name x p) [] [] pos) (fun _ H Q => sp [] H Q E) := by
  obtain ⟨f, fd, hm, kp, b, F⟩ := C
  refine ⟨fun pins s σ H Q I h => ?_⟩
  exact (pe_call0 F hr hg hm kp b .nil hx hdb).run pins s σ H Q I h
end
end NV

set_option Elab.async false
set_option linter.all false
set_option maxRecDepth 100000
set_option maxHeartbeats 4000000
/-! # the law's stream: a list of four, told by what is true of its one object -/
namespace NV
open PySem PySem.Spec PyProof.Rows L2
def Strm (p q : Addr) (h : Heap) : Prop := ∃ (a b c : Int) (t1 t2 t3 : Tok) (n : Nat), h.get? p = some { cls := .type "list", data := .seq #[.ref q, .int a t1, .int b t2, .int c t3] n } ∧ 0 ≤ b
/-- a stream to draw from stands at p -/
def StrmAt (H : Hp) (p : Addr) : Prop := ∃ (q : Addr) (ns : List Int), H p = some (.ext (Strm p q)) ∧ H q = some (.lst (ns.map V.int))
theorem StrmAt.mono {H H' : Hp} {p : Addr} (e : Evl.Ex H H') (h : StrmAt H p) : StrmAt H' p := by
  obtain ⟨q, ns, h1, h2⟩ := h
  exact ⟨q, ns, e _ _ h1, e _ _ h2⟩
section
variable {P : Program} {w : World} {K : PySem.W.Frag} {mg : Str → Option Value} {base : Heap}
theorem strm_of {H : Hp} {h : Heap} {p q : Addr} {a b c : Int} (x : ObjOk P w H h p (.lst [.ref q, .int a, .int b, .int c])) (hb : 0 ≤ b) : Strm p q h := by
  obtain ⟨_, its, n, r, e⟩ := x
  cases r with
  | cons r0 r => cases r with
    | cons r1 r => cases r with
      | cons r2 r => cases r with
        | cons r3 r =>
          cases r
          cases r0
          obtain ⟨t1, rfl⟩ := r1
          obtain ⟨t2, rfl⟩ := r2
          obtain ⟨t3, rfl⟩ := r3
          exact ⟨a, b, c, t1, t2, t3, n, e, hb⟩
theorem strm_ext {H : Hp} {h : Heap} {p q : Addr} (x : Strm p q h) : ObjOk P w H h p (.ext (Strm p q)) := by
  refine ⟨x, ?_, fun h1 h2 y k => ?_⟩
  · obtain ⟨a, b, c, t1, t2, t3, n, e, _⟩ := x
    exact ⟨_, e⟩
  · obtain ⟨a, b, c, t1, t2, t3, n, e, hb⟩ := y
    exact ⟨a, b, c, t1, t2, t3, n, k _ e, hb⟩
/-- what stands at p is told otherwise: neither telling is one that others lean on -/
theorem hok_tell {H : Hp} {h : Heap} {p : Addr} {o : HO} (ok : HOk P w H h) (no : ∀ y, H p ≠ some (.own y)) (nt : ∀ xs, H p ≠ some (.tup xs)) (new : ObjOk P w (upd H p o) h p o) : HOk P w (upd H p o) h := fun b u e => by
  by_cases hb : b = p
  · subst hb
    rw [upd_same] at e
    cases e
    exact new
  · rw [upd_ne hb] at e
    exact (ok b u e).stay (fun c v _ q => q) (fun c q => by rw [upd_ne (fun z => by rw [z] at q; exact no _ q)]; exact q) (fun c xs q => by rw [upd_ne (fun z => by rw [z] at q; exact nt _ q)]; exact q)
/-- a def that hands back, beside what it promises, a list of four: it stands as a stream from there on -/
theorem Cal.seal {k : Nat} {x : Str} {ps : List Str} {sp sp' : Sp} (C : Cal P w K mg base CX0 k x ps sp)
    (h : ∀ vs H Q E, sp' vs H Q E → sp vs H (fun v H' => ∃ (p q : Addr) (a b c : Int), H' p = some (.lst [.ref q, .int a, .int b, .int c]) ∧ 0 ≤ b ∧ Q v (upd H' p (.ext (Strm p q)))) E) : Cal P w K mg base CX0 k x ps sp' := by
  obtain ⟨f, fd, hm, kp, bd, F⟩ := C
  refine ⟨f, fd, hm, kp, bd, fun vs H Q E q => F.len _ _ _ _ (h _ _ _ _ q), fun A outer s H args us vs Q E hr he hb hv hs => codeAny_mono (F.run A outer s H args us vs _ E hr he hb hv (h _ _ _ _ hs)) fun r s' hq => ?_⟩
  cases r with
  | error e => exact hq
  | ok fl =>
    cases fl with
    | ret u =>
      obtain ⟨v, H', os, bare, un, hok, rv, p, q, a, b, c, hp, hb0, qq⟩ := hq
      have neS : ∀ d, H' d = none → d ≠ p := fun d e z => by rw [z, hp] at e; cases e
      refine ⟨v, upd H' p (.ext (Strm p q)), os, bare, ⟨un.keep, un.slot, fun d o e n hx => ?_, un.there, fun d xs e => ?_, fun d o y e => ?_, fun d tb e => ?_⟩, ?_, rv, qq⟩
      · have n' := un.free d o e n hx
        rw [upd_ne (neS d n')]
        exact n'
      · have z := un.tups d xs e
        rw [upd_ne (fun y => by rw [y, hp] at z; cases z)]
        exact z
      · have z := un.frzs d o y e
        rw [upd_ne (fun y => by rw [y, hp] at z; cases z)]
        exact z
      · obtain ⟨m, z⟩ := un.tbls d tb e
        exact ⟨m, by rw [upd_ne (fun y => by rw [y, hp] at z; cases z)]; exact z⟩
      · exact hok_tell hok (fun y e => by rw [hp] at e; cases e) (fun y e => by rw [hp] at e; cases e) (strm_ext (strm_of (hok p _ hp) hb0))
    | next => exact hq
    | brk => exact hq
    | cont => exact hq
/-- a def that draws from a stream: the list of four is seen within it alone -/
theorem Cal.unseal {k : Nat} {x : Str} {ps : List Str} {sp sp' : Sp} (C : Cal P w K mg base CX0 k x ps sp)
    (hl : ∀ vs H Q E, sp' vs H Q E → vs.length = ps.length)
    (h : ∀ vs H Q E, sp' vs H Q E → ∃ p, (StrmAt H p) ∧ ∀ (q : Addr) (ns : List Int) (a b c : Int), H p = some (.ext (Strm p q)) → H q = some (.lst (ns.map V.int)) → 0 ≤ b →
      sp vs (upd H p (.lst [.ref q, .int a, .int b, .int c])) (fun v H' => Q v H ∧ ∃ (a' b' c' : Int), 0 ≤ b' ∧ H' = upd (upd H p (.lst [.ref q, .int a, .int b, .int c])) p (.lst [.ref q, .int a', .int b', .int c'])) E) : Cal P w K mg base CX0 k x ps sp' := by
  obtain ⟨f, fd, hm, kp, bd, F⟩ := C
  refine ⟨f, fd, hm, kp, bd, hl, fun A outer s H args us vs Q E hr he hb hv hs => ?_⟩
  obtain ⟨p, ⟨q, ns, hp, hq⟩, hs⟩ := h _ _ _ _ hs
  obtain ⟨⟨a, b, c, t1, t2, t3, n, hg, hb0⟩, _, _⟩ := he.hok p _ hp
  have hs := hs q ns a b c hp hq hb0
  have neS : ∀ d, H d = none → d ≠ p := fun d e z => by rw [z, hp] at e; cases e
  have he1 : Env0 P w K mg base A outer s (upd H p (.lst [.ref q, .int a, .int b, .int c])) := by
    refine ⟨he.frames, he.mod, fun d o e => ?_, he.bsz, he.funs, fun d hd => ?_, ?_, he.bare⟩
    · obtain ⟨e1, e2⟩ := he.bs d o e
      exact ⟨e1, by rw [upd_ne (neS d e2)]; exact e2⟩
    · have e2 := he.frf d hd
      rw [upd_ne (neS d e2)]
      exact e2
    · exact hok_tell he.hok (fun y e => by rw [hp] at e; cases e) (fun y e => by rw [hp] at e; cases e)
        ⟨by show 4 ≤ sizeLine; decide, _, n, .cons rfl (.cons ⟨t1, rfl⟩ (.cons ⟨t2, rfl⟩ (.cons ⟨t3, rfl⟩ .nil))), hg⟩
  refine codeAny_mono (F.run A outer s _ args us vs _ E hr he1 hb hv hs) fun r s' hq2 => ?_
  cases r with
  | error e => exact hq2
  | ok fl =>
    cases fl with
    | ret u =>
      obtain ⟨v, H', os, bare, un, hok, rv, qq, a', b', c', hb1, rfl⟩ := hq2
      rw [upd_upd] at hok un
      refine ⟨v, H, os, bare, ⟨fun d o e n => un.keep d o e (by rw [upd_ne (neS d n)]; exact n), fun d o e n => un.slot d o e (by rw [upd_ne (neS d n)]; exact n), fun d o e n hx => n, un.there, fun d xs e => e, fun d o y e => e, fun d tb e => ⟨#[], by rw [e]; simp⟩⟩, ?_, rv, qq⟩
      have x := hok p _ upd_same
      have y := hok_tell (o := .ext (Strm p q)) hok (fun y e => by rw [upd_same] at e; cases e) (fun y e => by rw [upd_same] at e; cases e) (strm_ext (strm_of x hb1))
      rw [upd_upd] at y
      have z : upd H p (.ext (Strm p q)) = H := by
        funext d
        unfold upd
        by_cases hd : d = p
        · rw [if_pos hd, hd, hp]
        · rw [if_neg hd]
      rw [z] at y
      exact y
    | next => exact hq2
    | brk => exact hq2
    | cont => exact hq2
end
end NV

set_option Elab.async false
set_option linter.all false
set_option maxRecDepth 100000
set_option maxHeartbeats 4000000
/-! # texts and trees -/
namespace NV
open PySem PySem.Spec PyProof.Rows L2
open Evl (Ex)
/-- a text by its signs -/
abbrev S (l : List Nat) : Str := ⟨l.toArray⟩
theorem S_append (a b : List Nat) : S a ++ S b = S (a ++ b) := by
  show (⟨a.toArray ++ b.toArray⟩ : Str) = ⟨(a ++ b).toArray⟩
  rw [List.append_toArray]
theorem S_len (a : List Nat) : (S a).length = a.length := rfl
theorem S_add_len (x y : Str) : (x ++ y).length = x.length + y.length := by
  obtain ⟨x, rfl⟩ : ∃ l, x = S l := ⟨x.cps.toList, rfl⟩
  obtain ⟨y, rfl⟩ : ∃ l, y = S l := ⟨y.cps.toList, rfl⟩
  rw [S_append, S_len, List.length_append]
  rfl
theorem cut_len (z : Str) (lo hi : Option Int) : (cutS z lo hi).length ≤ z.length := by
  obtain ⟨l, rfl⟩ : ∃ l, z = S l := ⟨z.cps.toList, rfl⟩
  show (List.take _ (List.drop _ l)).length ≤ l.length
  rw [List.length_take, List.length_drop]
  omega
theorem S_inj {a b : List Nat} (h : S a = S b) : a = b := by
  have := congrArg (fun s : Str => s.cps.toList) h
  exact this
theorem S_cut (a : List Nat) (lo hi : Option Int) : cutS (S a) lo hi = S ((a.drop (HT.sIx a.length 0 lo)).take (HT.sIx a.length a.length hi - HT.sIx a.length 0 lo)) := rfl
theorem S_rep (a : List Nat) (n : Nat) : repS (S a) n = S (List.replicate n a).flatten := rfl
theorem S_of (s : Str) : ∃ l, s = S l := ⟨s.cps.toList, rfl⟩
/-- a stand-alone fact of new objects -/
theorem ne_new {H : Hp} {a b : Addr} {o : HO} (h : H a = some o) (h' : H b = none) : b ≠ a := (ne_of_none h h').symm
theorem iteB {b : Bool} {A B : Prop} (h1 : b = true → A) (h2 : b = false → B) : if b = true then A else B := by
  cases b with
  | true => exact h1 rfl
  | false => exact h2 rfl
theorem iteD {p : Prop} [Decidable p] {A B : Prop} (h1 : p → A) (h2 : ¬ p → B) : if decide p = true then A else B := by
  by_cases h : p
  · rw [decide_eq_true h]; exact h1 h
  · rw [decide_eq_false h]; exact h2 h
theorem iteN {p : Prop} [Decidable p] {A B : Prop} (h1 : ¬ p → A) (h2 : p → B) : if (!decide p) = true then A else B := by
  by_cases h : p
  · rw [decide_eq_true h]; exact h2 h
  · rw [decide_eq_false h]; exact h1 h
theorem iteI {i j : Int} {A B : Prop} (h1 : i = j → A) (h2 : ¬ i = j → B) : if decide (V.int i = V.int j) = true then A else B :=
  iteD (fun h => h1 (V.int.inj h)) (fun h => h2 fun e => h (by rw [e]))
theorem iteNI {i j : Int} {A B : Prop} (h1 : ¬ i = j → A) (h2 : i = j → B) : if (!decide (V.int i = V.int j)) = true then A else B :=
  iteN (fun h => h1 fun e => h (by rw [e])) (fun h => h2 (V.int.inj h))
theorem iteS {i j : Str} {A B : Prop} (h1 : i = j → A) (h2 : ¬ i = j → B) : if decide (V.str i = V.str j) = true then A else B :=
  iteD (fun h => h1 (V.str.inj h)) (fun h => h2 fun e => h (by rw [e]))
theorem upd_self {H : Hp} {p : Addr} {o : HO} (h : H p = some o) : upd H p o = H := by
  funext d
  unfold upd
  by_cases hd : d = p
  · rw [if_pos hd, hd, h]
  · rw [if_neg hd]
theorem atI_at {α : Type} {xs : List α} {i : Int} (h0 : 0 ≤ i) (h1 : i < xs.length) : ∃ h : i.toNat < xs.length, atI xs i = some xs[i.toNat] := by
  have h : i.toNat < xs.length := by omega
  refine ⟨h, ?_⟩
  have := atI_nat (xs := xs) (j := i.toNat) (List.getElem?_eq_getElem h)
  rw [Int.toNat_of_nonneg h0] at this
  exact this
theorem atI_int {ns : List Int} {i : Int} (h0 : 0 ≤ i) (h1 : i < (ns.map V.int).length) : ∃ z, atI (ns.map V.int) i = some (.int z) := by
  obtain ⟨h, e⟩ := atI_at (xs := ns.map V.int) h0 h1
  rw [List.getElem_map] at e
  exact ⟨_, e⟩
theorem pickI {xs : List V} {f : V → Bool} (h : xs.all f = true) {i : Int} (h0 : 0 ≤ i) (h1 : i < xs.length) : ∃ v, atI xs i = some v ∧ f v = true := by
  obtain ⟨hi, e⟩ := atI_at h0 h1
  exact ⟨_, e, List.all_eq_true.mp h _ (List.getElem_mem hi)⟩
theorem pick_ix {K : PySem.W.Frag} {H : Hp} {p : Addr} {xs : List V} {f : V → Bool} {i : Int} {Q : V → Prop} (hq : SqA K H p xs) (h : xs.all f = true) (h0 : 0 ≤ i) (h1 : i < xs.length) (k : ∀ v, f v = true → Q v) : ∃ xs v, SqA K H p xs ∧ atI xs i = some v ∧ Q v := by
  obtain ⟨v, e, hv⟩ := pickI h h0 h1
  exact ⟨xs, v, hq, e, k v hv⟩
theorem str_ix {z : Str} {n : Nat} {i : Int} {Q : Nat → Prop} (hn : z.cps.toList.length = n) (hz : n ≤ 100000) (h0 : 0 ≤ i) (h1 : i < n) (k : ∀ c, z.cps.toList[i.toNat]? = some c → Q c) : z.length ≤ sizeLine ∧ ∃ c, atI z.cps.toList i = some c ∧ Q c := by
  have hl : z.length = n := hn
  have hs : sizeLine = 16777216 := sizeLine_eq
  obtain ⟨hi, e⟩ := atI_at (xs := z.cps.toList) h0 (by rw [hn]; exact h1)
  exact ⟨by omega, _, e, k _ (List.getElem?_eq_getElem hi)⟩
theorem mem_ix {K : PySem.W.Frag} {H : Hp} {p : Addr} {xs : List V} {i : Int} {P Q : V → Prop} (hq : SqA K H p xs) (h0 : 0 ≤ i) (h1 : i < xs.length) (hP : ∀ v ∈ xs, P v) (k : ∀ v, P v → Q v) : ∃ xs v, SqA K H p xs ∧ atI xs i = some v ∧ Q v := by
  obtain ⟨hi, e⟩ := atI_at h0 h1
  exact ⟨xs, _, hq, e, k _ (hP _ (List.getElem_mem hi))⟩
theorem mem_of_get {α : Type} {xs : List α} {i : Nat} {x : α} (h : xs[i]? = some x) : x ∈ xs := by
  obtain ⟨hi, e⟩ := List.getElem?_eq_some_iff.mp h
  rw [← e]
  exact List.getElem_mem hi
theorem map_get {α β : Type} {f : α → β} {xs : List α} {i : Nat} {y : β} (h : (xs.map f)[i]? = some y) : ∃ x, xs[i]? = some x ∧ y = f x := by
  rw [List.getElem?_map] at h
  cases e : xs[i]? with
  | none => rw [e] at h; cases h
  | some u => rw [e] at h; exact ⟨u, rfl, (Option.some.inj h).symm⟩
/-! ### signs, trees -/
inductive Tr where
  | l
  | n (a b : Tr)
  deriving DecidableEq
def Tr.enc : Tr → List Nat
  | .l => [48]
  | .n a b => 49 :: (a.enc ++ b.enc)
def Tr.pairs : Tr → Nat
  | .l => 0
  | .n a b => a.pairs + b.pairs + 1
theorem Tr.enc_len : ∀ t : Tr, t.enc.length = 2 * t.pairs + 1
  | .l => rfl
  | .n a b => by
    have h1 := a.enc_len
    have h2 := b.enc_len
    simp only [Tr.enc, Tr.pairs, List.length_cons, List.length_append]
    omega
theorem Tr.enc_ne (t : Tr) : t.enc ≠ [] := by cases t <;> simp [Tr.enc]
theorem S_app1 (a : List Nat) : S a ++ ("1" : Str) = S (a ++ [49]) := S_append a [49]
theorem S_app0 (a : List Nat) : S a ++ ("0" : Str) = S (a ++ [48]) := S_append a [48]
/-- m trees are missing; how many behind these signs -/
def scan : Nat → List Nat → Option Nat
  | m, [] => some m
  | 0, _ :: _ => none
  | m + 1, c :: cs => if c = 49 then scan (m + 2) cs else if c = 48 then scan m cs else none
theorem scan_nil (m : Nat) : scan m [] = some m := by cases m <;> rfl
theorem scan_zero (c : Nat) (cs : List Nat) : scan 0 (c :: cs) = none := rfl
theorem scan_one (m : Nat) (cs : List Nat) : scan (m + 1) (49 :: cs) = scan (m + 2) cs := rfl
theorem scan_leaf (m : Nat) (cs : List Nat) : scan (m + 1) (48 :: cs) = scan m cs := rfl
theorem scan_other (m : Nat) {c : Nat} (cs : List Nat) (h1 : c ≠ 49) (h0 : c ≠ 48) : scan (m + 1) (c :: cs) = none := by
  show (if c = 49 then _ else if c = 48 then _ else none) = _
  rw [if_neg h1, if_neg h0]
theorem scan_append : ∀ (a b : List Nat) (m : Nat), scan m (a ++ b) = (scan m a).bind fun k => scan k b
  | [], b, m => by rw [List.nil_append, scan_nil]; rfl
  | c :: a, b, 0 => rfl
  | c :: a, b, m + 1 => by
    show (if c = 49 then scan (m + 2) (a ++ b) else if c = 48 then scan m (a ++ b) else none) = (if c = 49 then scan (m + 2) a else if c = 48 then scan m a else none).bind _
    by_cases h1 : c = 49
    · rw [if_pos h1, if_pos h1]; exact scan_append a b (m + 2)
    · rw [if_neg h1, if_neg h1]
      by_cases h0 : c = 48
      · rw [if_pos h0, if_pos h0]; exact scan_append a b m
      · rw [if_neg h0, if_neg h0]; rfl
theorem scan_enc : ∀ (t : Tr) (m : Nat) (r : List Nat), scan (m + 1) (t.enc ++ r) = scan m r
  | .l, m, r => rfl
  | .n a b, m, r => by
    show scan (m + 2) (a.enc ++ b.enc ++ r) = _
    rw [List.append_assoc, scan_enc a (m + 1), scan_enc b m]
theorem scan_enc1 (t : Tr) : scan 1 t.enc = some 0 := by
  have := scan_enc t 0 []
  rw [List.append_nil] at this
  rw [this]
  rfl
/-- what is read to its end is so many trees -/
theorem scan_trees : ∀ (s : List Nat) (m : Nat), scan m s = some 0 → ∃ ts : List Tr, ts.length = m ∧ s = (ts.map Tr.enc).flatten
  | [], m, h => by
    rw [scan_nil] at h
    cases h
    exact ⟨[], rfl, rfl⟩
  | c :: cs, 0, h => by cases h
  | c :: cs, m + 1, h => by
    have h' : (if c = 49 then scan (m + 2) cs else if c = 48 then scan m cs else none) = some 0 := h
    by_cases h1 : c = 49
    · rw [if_pos h1] at h'
      obtain ⟨ts, hl, e⟩ := scan_trees cs (m + 2) h'
      match ts, hl, e with
      | a :: b :: r, hl, e =>
        refine ⟨.n a b :: r, by simpa using hl, ?_⟩
        rw [e, h1]
        simp [Tr.enc, List.append_assoc]
    · rw [if_neg h1] at h'
      by_cases h0 : c = 48
      · rw [if_pos h0] at h'
        obtain ⟨ts, hl, e⟩ := scan_trees cs m h'
        refine ⟨.l :: ts, by simpa using hl, ?_⟩
        rw [e, h0]
        rfl
      · rw [if_neg h0] at h'
        cases h'
theorem scan_tree {s : List Nat} (h : scan 1 s = some 0) : ∃ t : Tr, s = t.enc := by
  obtain ⟨ts, hl, e⟩ := scan_trees s 1 h
  match ts, hl, e with
  | [t], _, e => exact ⟨t, by rw [e]; simp⟩
/-- a tree of at most 200,000 signs -/
def isTr (s : List Nat) : Bool := decide (s.length ≤ 200000) && decide (scan 1 s = some 0)
/-- what is_tree answers of a value -/
inductive TrAns (K : PySem.W.Frag) (H : Hp) : V → Bool → Prop
  | str {l : List Nat} (h : l.length ≤ 10000000) : TrAns K H (.str (S l)) (isTr l)
  | lst {a : Addr} (h : TyX K H (.ref a) (.type "list")) : TrAns K H (.ref a) false
  | tup {a : Addr} (h : TyX K H (.ref a) (.type "tuple")) : TrAns K H (.ref a) false
  | non : TrAns K H .non false
  | int (i : Int) : TrAns K H (.int i) false
  | bl (b : Bool) : TrAns K H (.bl b) false
theorem isTr_enc {t : Tr} (h : t.enc.length ≤ 200000) : isTr t.enc = true := by
  unfold isTr
  rw [scan_enc1, decide_eq_true h]
  rfl
theorem TrAns.tree {K : PySem.W.Frag} {H : Hp} {t : Tr} (h : t.enc.length ≤ 200000) : TrAns K H (.str (S t.enc)) true := by
  have := TrAns.str (K := K) (H := H) (l := t.enc) (by omega)
  rw [isTr_enc h] at this
  exact this
theorem tyx_ex {K : PySem.W.Frag} {H H' : Hp} (e : Ex H H') {v : V} {t : Value} (h : TyX K H v t) : TyX K H' v t := by
  cases h with
  | base h =>
    cases h with
    | non => exact .base .non
    | bl x => exact .base (.bl x)
    | int i => exact .base (.int i)
    | str x => exact .base (.str x)
    | flt x => exact .base (.flt x)
    | lst h => exact .base (.lst (e _ _ h))
    | frz h => exact .base (.frz (e _ _ h))
    | tup h => exact .base (.tup (e _ _ h))
    | dK h => exact .base (.dK (e _ _ h))
    | dT h => exact .base (.dT (e _ _ h))
    | ins h a b c d f => exact .base (.ins (e _ _ h) a b c d f)
  | byt b => exact .byt b
  | set h => exact .set (e _ _ h)
  | kList h c => exact .kList h c
  | kTuple h c => exact .kTuple h c
  | kDict h c => exact .kDict h c
  | fTuple h => exact .fTuple (e _ _ h)
  | fDict h => exact .fDict (e _ _ h)
theorem TrAns.mono {K : PySem.W.Frag} {H H' : Hp} (e : Ex H H') {v : V} {b : Bool} (h : TrAns K H v b) : TrAns K H' v b := by
  cases h with
  | str h => exact .str h
  | lst h => exact .lst (tyx_ex e h)
  | tup h => exact .tup (tyx_ex e h)
  | non => exact .non
  | int i => exact .int i
  | bl b => exact .bl b
theorem enc_inj : ∀ (t u : Tr) (r r' : List Nat), t.enc ++ r = u.enc ++ r' → t = u ∧ r = r'
  | .l, .l, r, r', h => by
    simp only [Tr.enc, List.cons_append, List.nil_append, List.cons.injEq, true_and] at h
    exact ⟨rfl, h⟩
  | .l, .n _ _, r, r', h => by simp [Tr.enc] at h
  | .n _ _, .l, r, r', h => by simp [Tr.enc] at h
  | .n a b, .n c d, r, r', h => by
    simp only [Tr.enc, List.cons_append, List.cons.injEq, true_and, List.append_assoc] at h
    obtain ⟨e1, h⟩ := enc_inj a c _ _ h
    obtain ⟨e2, h⟩ := enc_inj b d _ _ h
    exact ⟨by rw [e1, e2], h⟩
theorem enc_inj1 {t u : Tr} (h : t.enc = u.enc) : t = u := (enc_inj t u [] [] (by rw [h])).1
def tens (n : Nat) : List Nat := (List.replicate n [49, 48]).flatten ++ [48]
theorem flat_len (n : Nat) (l : List Nat) : (List.replicate n l).flatten.length = n * l.length := by
  induction n with
  | zero => simp
  | succ n ih => rw [List.replicate_succ, List.flatten_cons, List.length_append, ih, Nat.succ_mul, Nat.add_comm]
theorem tens_len (n : Nat) : (tens n).length = 2 * n + 1 := by
  unfold tens
  rw [List.length_append, flat_len]
  show n * 2 + 1 = _
  omega
/-- the number n as a tree -/
def numT : Nat → Tr
  | 0 => .l
  | n + 1 => .n .l (numT n)
theorem numT_enc : ∀ n, (numT n).enc = tens n
  | 0 => rfl
  | n + 1 => by
    show 49 :: ([48] ++ (numT n).enc) = _
    rw [numT_enc n]
    unfold tens
    rw [List.replicate_succ, List.flatten_cons, List.append_assoc]
    rfl
theorem tens_str (n : Nat) : repS ("10" : Str) n ++ ("0" : Str) = S (tens n) := S_append _ _
theorem tens_inj {n m : Nat} (h : tens n = tens m) : n = m := by
  have := congrArg List.length h
  rw [tens_len, tens_len] at this
  omega
/-- a for over a text's signs -/
theorem for_str {z : List Nat} {g : TG} {tb : TS} {D : Ends} {σ : L2.St} {H : Hp} (Pv : Nat → L2.St → Hp → Prop) (h0 : Pv 0 σ H)
    (hs : ∀ i c σ H, z[i]? = some c → Pv i σ H → g (.str (S [c])) σ H fun σ2 H2 => tb { D with nx := Pv (i + 1), ct := Pv (i + 1), bk := D.nx } σ2 H2) (hd : ∀ σ H, Pv z.length σ H → D.nx σ H) :
    ∃ W : Nat → Nat → L2.St → Hp → Prop, (∃ m, W 0 m σ H) ∧ ∀ i m σ H, W i m σ H →
      ((Its (S z)).stop i H ∧ D.nx σ H) ∨ ((Its (S z)).go i H ∧ ∃ N : L2.St → Hp → Prop, (∀ σ' H', N σ' H' → ∃ m', m' < m ∧ W (i + 1) m' σ' H') ∧ ∀ x H', (Its (S z)).yld i H x H' → g x σ H' fun σ2 H2 => tb { D with nx := N, ct := N, bk := D.nx } σ2 H2) := by
  refine ⟨fun i m s h => Pv i s h ∧ i ≤ z.length ∧ i + m = z.length, ⟨z.length, h0, Nat.zero_le _, by omega⟩, ?_⟩
  rintro i m s h ⟨p, hi, em⟩
  by_cases hlt : i < z.length
  · refine .inr ⟨show i < (S z).cps.size from hlt, Pv (i + 1), fun s' h' p' => ⟨m - 1, by omega, p', hlt, by omega⟩, ?_⟩
    rintro x h' ⟨rfl, c, hc, rfl⟩
    have hc' : z[i]? = some c := by
      have e : (S z).cps[i]? = z[i]? := List.getElem?_toArray
      rw [← e]
      exact hc
    exact hs i c s _ hc' p
  · have e : i = z.length := by omega
    subst e
    exact .inl ⟨Nat.le_refl _, hd _ _ p⟩
theorem drop_cons {α : Type} {z : List α} {i : Nat} {c : α} (h : z[i]? = some c) : z.drop i = c :: z.drop (i + 1) := by
  obtain ⟨hi, e⟩ := List.getElem?_eq_some_iff.mp h
  rw [List.drop_eq_getElem_cons hi, e]
/-! ### a law's end -/
def spLaw (K : PySem.W.Frag) (_ : Str → Option Value) : Sp := fun vs H Q _ => ∃ (a : Addr) (ns : List Int), vs = [.ref a] ∧ SqL K H a (ns.map V.int) ∧ ns.length ≤ 63 ∧ ∀ H', Q (.bl true) H'
theorem walk_law {l : PySem.W.OpenLaw} {k : Nat} {q : Program} {loose : List Str} {XP : (Str → Option Value) → Heap → Prop} {YP : World → Heap → Prop} {d : DefRec} {K : Params → PySem.W.Frag} (hn : l.most = some 63) (hdf : d.params.defaults = []) (hk : k ≤ 60)
    (hY : ∀ (w : World) (h : Heap), YP w h → (K w.params).In h)
    (F : ∀ (w : World) (mg : Str → Option Value) (fa : Addr) (h : Heap), (K w.params).In h → h.Ns mainGlobals mg → mg d.name = some (.ref fa) →
      ∃ fd : FuncData, (∀ (s : Shared) (u : Value), BindsTo s fd ⟨[u], []⟩ [("_law_script", u)]) ∧ ∀ base : Heap, (K w.params).In base → base.Ns mainGlobals mg → FnOk l.prog w (K w.params) mg base CX0 k fa fd ["_law_script"] (spLaw (K w.params) mg)) :
    PySem.W.WalkO q loose XP YP l.row.toRowW d [] (fun f vs => PySem.call f vs) :=
  L2.walk_of (n := 63) (k := k) (x := "_law_script") (CX := fun _ => CX0) (sp := fun w => fun vs H Q _ => ∃ (a : Addr) (ns : List Int), vs = [.ref a] ∧ SqL (K w.params) H a (ns.map V.int) ∧ ns.length ≤ 63 ∧ ∀ H', Q (.bl true) H') hn (by decide) hdf (Room.mono (show Room 60 callerA from ⟨rfl, by decide, by decide⟩) hk) hY F (fun _ _ a ns hl _ hS => ⟨a, ns, rfl, hS, hl, fun _ => rfl⟩) fun _ _ _ _ _ z => z
end NV

set_option Elab.async false
set_option linter.all false
set_option maxRecDepth 100000
set_option maxHeartbeats 4000000
/-! # data: lists and tuples of texts and ints -/
namespace NV
open PySem PySem.Spec PyProof.Rows L2
open Evl (Ex)
mutual
theorem Dp.mono {K : PySem.W.Frag} {H H' : Hp} (e : Ex H H') : ∀ (d : PyData) {v : V}, Dp K H v d → Dp K H' v d
  | .none, _, h => by cases h; exact .non
  | .bool b, _, h => by cases h; exact .bl b
  | .int i, _, h => by cases h; exact .int i
  | .str x, _, h => by cases h; exact .str x
  | .list ds, _, h => by
    cases h with
    | lst hs ha => exact .lst (Evl.ex_l e hs) (DpAll.mono e ds ha)
  | .tuple ds, _, h => by
    cases h with
    | tup hs ha => exact .tup (Evl.ex_t e hs) (DpAll.mono e ds ha)
  | .dict _, _, h => by cases h
theorem DpAll.mono {K : PySem.W.Frag} {H H' : Hp} (e : Ex H H') : ∀ (ds : List PyData) {vs : List V}, DpAll K H vs ds → DpAll K H' vs ds
  | [], _, h => by cases h; exact .nil
  | d :: ds, _, h => by
    cases h with
    | cons h1 h2 => exact .cons (Dp.mono e d h1) (DpAll.mono e ds h2)
end
/-! no bools, no dicts, good texts -/
mutual
def nb : PyData → Bool
  | .none => true
  | .bool _ => false
  | .int _ => true
  | .str x => x.cps.all (· < 0x110000)
  | .list xs => nbAll xs
  | .tuple xs => nbAll xs
  | .dict _ => false
def nbAll : List PyData → Bool
  | [] => true
  | x :: xs => nb x && nbAll xs
end
mutual
theorem nb_lay : ∀ d : PyData, nb d = true → d.canLay0 = true
  | .none, _ => rfl
  | .bool _, h => by cases h
  | .int _, _ => rfl
  | .str x, h => h
  | .list xs, h => nbAll_lay xs h
  | .tuple xs, h => nbAll_lay xs h
  | .dict _, h => by cases h
theorem nbAll_lay : ∀ ds : List PyData, nbAll ds = true → PyData.canLayAll0 ds = true
  | [], _ => rfl
  | x :: xs, h => by
    have h' : (nb x && nbAll xs) = true := h
    rw [Bool.and_eq_true] at h'
    show (x.canLay0 && PyData.canLayAll0 xs) = true
    rw [nb_lay x h'.1, nbAll_lay xs h'.2]
    rfl
end
mutual
theorem eqv_nb : ∀ d e : PyData, nb d = true → nb e = true → (PyData.eqv d e = true ↔ d = e)
  | .none, e, _, h => by cases e <;> simp [PyData.eqv]
  | .bool _, _, h, _ => by cases h
  | .int i, e, _, h => by cases e <;> first | (simp [PyData.eqv]; done) | (cases h)
  | .str x, e, _, h => by cases e <;> first | (simp [PyData.eqv]; done) | (cases h)
  | .list xs, e, hx, h => by
    cases e with
    | list ys =>
      show PyData.eqvAll xs ys = true ↔ _
      rw [eqvAll_nb xs ys hx h]
      exact ⟨fun q => by rw [q], fun q => PyData.list.inj q⟩
    | bool _ => cases h
    | dict _ => cases h
    | _ => simp [PyData.eqv]
  | .tuple xs, e, hx, h => by
    cases e with
    | tuple ys =>
      show PyData.eqvAll xs ys = true ↔ _
      rw [eqvAll_nb xs ys hx h]
      exact ⟨fun q => by rw [q], fun q => PyData.tuple.inj q⟩
    | bool _ => cases h
    | dict _ => cases h
    | _ => simp [PyData.eqv]
  | .dict _, _, h, _ => by cases h
theorem eqvAll_nb : ∀ xs ys : List PyData, nbAll xs = true → nbAll ys = true → (PyData.eqvAll xs ys = true ↔ xs = ys)
  | [], [], _, _ => by simp [PyData.eqvAll]
  | [], _ :: _, _, _ => by simp [PyData.eqvAll]
  | _ :: _, [], _, _ => by simp [PyData.eqvAll]
  | x :: xs, y :: ys, hx, hy => by
    have hx' : (nb x && nbAll xs) = true := hx
    have hy' : (nb y && nbAll ys) = true := hy
    rw [Bool.and_eq_true] at hx' hy'
    show (PyData.eqv x y && PyData.eqvAll xs ys) = true ↔ _
    rw [Bool.and_eq_true, eqv_nb x y hx'.1 hy'.1, eqvAll_nb xs ys hx'.2 hy'.2]
    exact ⟨fun q => by rw [q.1, q.2], fun q => by injection q with a b; exact ⟨a, b⟩⟩
end
theorem eqv_dec {d e : PyData} {p : Prop} [Decidable p] (hd : nb d = true) (he : nb e = true) (h : d = e ↔ p) : PyData.eqv d e = decide p := by
  have := eqv_nb d e hd he
  by_cases q : p
  · rw [decide_eq_true q, this.mpr (h.mpr q)]
  · rw [decide_eq_false q]
    cases z : PyData.eqv d e with
    | false => rfl
    | true => exact absurd (h.mp (this.mp z)) q
theorem shaped_of {d : PyData} (h : nb d = true) (hd : d.depth ≤ 64) : SeqAt.shaped d = true := by
  show (d.canLay0 && decide (d.depth ≤ 64)) = true
  rw [nb_lay d h, decide_eq_true hd]
  rfl
/-- signs that a text may have -/
def sOk (l : List Nat) : Bool := l.all (· < 0x110000)
theorem nb_S (l : List Nat) : nb (.str (S l)) = sOk l := by
  show (l.toArray.all fun x => decide (x < 0x110000)) = _
  rw [List.all_toArray]
  rfl
theorem sOk_enc : ∀ t : Tr, sOk t.enc = true
  | .l => rfl
  | .n a b => by
    have h1 := sOk_enc a
    have h2 := sOk_enc b
    unfold sOk at *
    show (decide (49 < 0x110000) && (a.enc ++ b.enc).all _) = true
    rw [List.all_append, h1, h2]
    rfl
end NV

namespace NV
open PySem PySem.Spec PyProof.Rows L2
open Evl (Ex)
def top (i : Nat) : Stmt := PySem.Challenge.pw_narcissus_k03_numbers.main.body.getD i (.Pass ⟨0, 0, 0, 0⟩)
abbrev s_trees_value_of : Stmt := top 7
theorem sc_trees_value_of : FnScope ["tree", "count"] ["tree"] (defScope s_trees_value_of) := ⟨rfl, rfl, rfl, by decide +kernel, rfl, by decide +kernel, by decide +kernel⟩
abbrev s_L_draw : Stmt := top 10
theorem sc_L_draw : FnScope ["_law_stream_here", "_law_many", "_law_value"] ["_law_stream_here", "_law_many"] (defScope s_L_draw) := ⟨rfl, rfl, rfl, by decide +kernel, rfl, by decide +kernel, by decide +kernel⟩
abbrev s_L_tree : Stmt := top 11
theorem sc_L_tree : FnScope ["_law_stream_here", "_law_pairs", "_law_signs", "_law_missing"] ["_law_stream_here", "_law_pairs"] (defScope s_L_tree) := ⟨rfl, rfl, rfl, by decide +kernel, rfl, by decide +kernel, by decide +kernel⟩
abbrev s_L_given : Stmt := top 15
theorem sc_L_given : FnScope ["_law_told_here"] ["_law_told_here"] (defScope s_L_given) := ⟨rfl, rfl, rfl, by decide +kernel, rfl, by decide +kernel, by decide +kernel⟩
abbrev s_trees_number : Stmt := top 6
theorem sc_trees_number : FnScope ["value"] ["value"] (defScope s_trees_number) := ⟨rfl, rfl, rfl, by decide +kernel, rfl, by decide +kernel, by decide +kernel⟩
abbrev s_L_told : Stmt := top 16
theorem sc_L_told : FnScope ["_law_value"] ["_law_value"] (defScope s_L_told) := ⟨rfl, rfl, rfl, by decide +kernel, rfl, by decide +kernel, by decide +kernel⟩
abbrev s_L_stream : Stmt := top 9
theorem sc_L_stream : FnScope ["_law_script", "_law_mixed", "_law_cell"] ["_law_script"] (defScope s_L_stream) := ⟨rfl, rfl, rfl, by decide +kernel, rfl, by decide +kernel, by decide +kernel⟩
abbrev s_L_law : Stmt := top 17
theorem sc_L_law : FnScope ["_law_script", "_law_stream_here", "_law_value", "_law_due", "_law_tree_here", "_law_wanted", "_law_k", "_law_many", "_law_inner", "_law_other"] ["_law_script"] (defScope s_L_law) := ⟨rfl, rfl, rfl, by decide +kernel, rfl, by decide +kernel, by decide +kernel⟩
structure Txt (K : PySem.W.Frag) (mg : Str → Option Value) : Prop where
  x_NarcissusError : ExcC K mg "NarcissusError"
  x_TooLarge : ExcC K mg "TooLarge"
  e_NarcissusError_TooLarge : ExM K mg "NarcissusError" "TooLarge" false
  e_TooLarge_TooLarge : ExM K mg "TooLarge" "TooLarge" true
  m_LEAF : ∃ t, mg "LEAF" = some (.str "0" t)
  m_MOST_TREE : ∃ t, mg "MOST_TREE" = some (.int 200000 t)
  n_abs : mg "abs" = none
  n_bool : mg "bool" = none
  n_int : mg "int" = none
  n_isinstance : mg "isinstance" = none
  n_len : mg "len" = none
  n_list : mg "list" = none
  n_range : mg "range" = none
  n_tuple : mg "tuple" = none
  f_trees_value_of : Fn K mg "value_of" "value_of" s_trees_value_of ["tree"]
  f_L_draw : Fn K mg "_law_draw" "_law_draw" s_L_draw ["_law_stream_here", "_law_many"]
  f_L_tree : Fn K mg "_law_tree" "_law_tree" s_L_tree ["_law_stream_here", "_law_pairs"]
  f_L_given : Fn K mg "_law_given" "_law_given" s_L_given ["_law_told_here"]
  f_trees_number : Fn K mg "number" "number" s_trees_number ["value"]
  f_L_told : Fn K mg "_law_told" "_law_told" s_L_told ["_law_value"]
  f_L_stream : Fn K mg "_law_stream" "_law_stream" s_L_stream ["_law_script"]
theorem txt_mk {K : PySem.W.Frag} {h : Heap} {mg : Str → Option Value} (X : K.In h) (G : h.Ns mainGlobals mg)
    {C1 : Addr} (a1 : PySem.W.nsIn K mainGlobals "NarcissusError" = some (some (.ref C1))) (x1 : PySem.W.excIn K C1 [.type "ValueError", .type "Exception", .type "BaseException", .type "object"] "ValueError.__new__" = true) (k1 : PySem.W.keepIn K (.ref C1) = true) (s1 : PySem.W.subIn K (.ref C1) (.type "BaseException") = some true) (t1 : PySem.W.typeIn K (.ref C1) = some (.type "type")) (i1 : PySem.W.isClsIn K C1 = true)
    {C2 : Addr} (a2 : PySem.W.nsIn K mainGlobals "TooLarge" = some (some (.ref C2))) (x2 : PySem.W.excIn K C2 [.type "ValueError", .type "Exception", .type "BaseException", .type "object"] "ValueError.__new__" = true) (k2 : PySem.W.keepIn K (.ref C2) = true) (s2 : PySem.W.subIn K (.ref C2) (.type "BaseException") = some true) (t2 : PySem.W.typeIn K (.ref C2) = some (.type "type")) (i2 : PySem.W.isClsIn K C2 = true)
    (p3 : PySem.W.subIn K (.ref C1) (.ref C2) = some false)
    (p4 : PySem.W.subIn K (.ref C2) (.ref C2) = some true)
    {tk5 : Tok} (z5 : PySem.W.nsIn K mainGlobals "LEAF" = some (some (.str "0" tk5)))
    {tk6 : Tok} (z6 : PySem.W.nsIn K mainGlobals "MOST_TREE" = some (some (.int 200000 tk6)))
    (z7 : PySem.W.nsIn K mainGlobals "abs" = some none)
    (z8 : PySem.W.nsIn K mainGlobals "bool" = some none)
    (z9 : PySem.W.nsIn K mainGlobals "int" = some none)
    (z10 : PySem.W.nsIn K mainGlobals "isinstance" = some none)
    (z11 : PySem.W.nsIn K mainGlobals "len" = some none)
    (z12 : PySem.W.nsIn K mainGlobals "list" = some none)
    (z13 : PySem.W.nsIn K mainGlobals "range" = some none)
    (z14 : PySem.W.nsIn K mainGlobals "tuple" = some none)
    {f15 : Addr} {od15 an15 : Option Addr} {sl15 : Array (Option Value)} {oc15 kV15 dc15 pm15 cd15 ct15 : Value}
    (a15 : PySem.W.nsIn K mainGlobals "value_of" = some (some (.ref f15))) (l15 : K.lookup f15 = some ⟨oc15, od15, .func (PySem.W.fnOf "value_of" "value_of" (defArgs s_trees_value_of) (defBody s_trees_value_of) (defScope s_trees_value_of) .none kV15 dc15 pm15 an15 cd15 ct15), sl15⟩) (c15 : PySem.W.codeIn K cd15 "value_of" = true) (k15 : PySem.W.keepIn K (.ref f15) = true)
    {f16 : Addr} {od16 an16 : Option Addr} {sl16 : Array (Option Value)} {oc16 kV16 dc16 pm16 cd16 ct16 : Value}
    (a16 : PySem.W.nsIn K mainGlobals "_law_draw" = some (some (.ref f16))) (l16 : K.lookup f16 = some ⟨oc16, od16, .func (PySem.W.fnOf "_law_draw" "_law_draw" (defArgs s_L_draw) (defBody s_L_draw) (defScope s_L_draw) .none kV16 dc16 pm16 an16 cd16 ct16), sl16⟩) (c16 : PySem.W.codeIn K cd16 "_law_draw" = true) (k16 : PySem.W.keepIn K (.ref f16) = true)
    {f17 : Addr} {od17 an17 : Option Addr} {sl17 : Array (Option Value)} {oc17 kV17 dc17 pm17 cd17 ct17 : Value}
    (a17 : PySem.W.nsIn K mainGlobals "_law_tree" = some (some (.ref f17))) (l17 : K.lookup f17 = some ⟨oc17, od17, .func (PySem.W.fnOf "_law_tree" "_law_tree" (defArgs s_L_tree) (defBody s_L_tree) (defScope s_L_tree) .none kV17 dc17 pm17 an17 cd17 ct17), sl17⟩) (c17 : PySem.W.codeIn K cd17 "_law_tree" = true) (k17 : PySem.W.keepIn K (.ref f17) = true)
    {f18 : Addr} {od18 an18 : Option Addr} {sl18 : Array (Option Value)} {oc18 kV18 dc18 pm18 cd18 ct18 : Value}
    (a18 : PySem.W.nsIn K mainGlobals "_law_given" = some (some (.ref f18))) (l18 : K.lookup f18 = some ⟨oc18, od18, .func (PySem.W.fnOf "_law_given" "_law_given" (defArgs s_L_given) (defBody s_L_given) (defScope s_L_given) .none kV18 dc18 pm18 an18 cd18 ct18), sl18⟩) (c18 : PySem.W.codeIn K cd18 "_law_given" = true) (k18 : PySem.W.keepIn K (.ref f18) = true)
    {f19 : Addr} {od19 an19 : Option Addr} {sl19 : Array (Option Value)} {oc19 kV19 dc19 pm19 cd19 ct19 : Value}
    (a19 : PySem.W.nsIn K mainGlobals "number" = some (some (.ref f19))) (l19 : K.lookup f19 = some ⟨oc19, od19, .func (PySem.W.fnOf "number" "number" (defArgs s_trees_number) (defBody s_trees_number) (defScope s_trees_number) .none kV19 dc19 pm19 an19 cd19 ct19), sl19⟩) (c19 : PySem.W.codeIn K cd19 "number" = true) (k19 : PySem.W.keepIn K (.ref f19) = true)
    {f20 : Addr} {od20 an20 : Option Addr} {sl20 : Array (Option Value)} {oc20 kV20 dc20 pm20 cd20 ct20 : Value}
    (a20 : PySem.W.nsIn K mainGlobals "_law_told" = some (some (.ref f20))) (l20 : K.lookup f20 = some ⟨oc20, od20, .func (PySem.W.fnOf "_law_told" "_law_told" (defArgs s_L_told) (defBody s_L_told) (defScope s_L_told) .none kV20 dc20 pm20 an20 cd20 ct20), sl20⟩) (c20 : PySem.W.codeIn K cd20 "_law_told" = true) (k20 : PySem.W.keepIn K (.ref f20) = true)
    {f21 : Addr} {od21 an21 : Option Addr} {sl21 : Array (Option Value)} {oc21 kV21 dc21 pm21 cd21 ct21 : Value}
    (a21 : PySem.W.nsIn K mainGlobals "_law_stream" = some (some (.ref f21))) (l21 : K.lookup f21 = some ⟨oc21, od21, .func (PySem.W.fnOf "_law_stream" "_law_stream" (defArgs s_L_stream) (defBody s_L_stream) (defScope s_L_stream) .none kV21 dc21 pm21 an21 cd21 ct21), sl21⟩) (c21 : PySem.W.codeIn K cd21 "_law_stream" = true) (k21 : PySem.W.keepIn K (.ref f21) = true)
    : Txt K mg :=
  ⟨⟨C1, PySem.W.mg_of X G a1, x1, k1, s1, t1⟩,
   ⟨C2, PySem.W.mg_of X G a2, x2, k2, s2, t2⟩,
   exm_mk X G a1 a2 s2 i2 t2 p3,
   exm_mk X G a2 a2 s2 i2 t2 p4,
   ⟨_, PySem.W.mg_of X G z5⟩,
   ⟨_, PySem.W.mg_of X G z6⟩,
   PySem.W.mg_none_of X G z7,
   PySem.W.mg_none_of X G z8,
   PySem.W.mg_none_of X G z9,
   PySem.W.mg_none_of X G z10,
   PySem.W.mg_none_of X G z11,
   PySem.W.mg_none_of X G z12,
   PySem.W.mg_none_of X G z13,
   PySem.W.mg_none_of X G z14,
   fn_mk X G a15 l15 c15 k15 (fun _ _ _ _ _ _ us hl => match us, hl with | [_], _ => rfl),
   fn_mk X G a16 l16 c16 k16 (fun _ _ _ _ _ _ us hl => match us, hl with | [_, _], _ => rfl),
   fn_mk X G a17 l17 c17 k17 (fun _ _ _ _ _ _ us hl => match us, hl with | [_, _], _ => rfl),
   fn_mk X G a18 l18 c18 k18 (fun _ _ _ _ _ _ us hl => match us, hl with | [_], _ => rfl),
   fn_mk X G a19 l19 c19 k19 (fun _ _ _ _ _ _ us hl => match us, hl with | [_], _ => rfl),
   fn_mk X G a20 l20 c20 k20 (fun _ _ _ _ _ _ us hl => match us, hl with | [_], _ => rfl),
   fn_mk X G a21 l21 c21 k21 (fun _ _ _ _ _ _ us hl => match us, hl with | [_], _ => rfl)⟩
/-- the integer whose number a text is -/
def valueOf (l : List Nat) : V := if l = tens (l.length / 2) then .int (l.length / 2 : Nat) else .non
def sp_trees_value_of (K : PySem.W.Frag) (_ : Str → Option Value) : Sp := fun vs H Q _ => ∃ (l : List Nat), vs = [.str (S l)] ∧ l.length ≤ 1000000 ∧ Q (valueOf l) H

section
variable {P : Program} {w : World} {K : PySem.W.Frag} {mg : Str → Option Value} {base : Heap}
theorem ok_trees_value_of (T : Txt K mg) : Cal P w K mg base CX0 1 "value_of" ["tree"] (sp_trees_value_of K mg) := by
  refine T.f_trees_value_of.ok sc_trees_value_of (fun vs H Q E h => (by obtain ⟨_, rfl, _⟩ := h; rfl)) (fun f cdv A outer s H vs Q E hr h => ⟨_, (pss_cons (ps_set (i := 1) sc_trees_value_of.nd rfl (.inl rfl) (pe_op oDiv (pe_callB (cLen (K := K)) (by rfl) T.n_len PySem.boot_len (pa_cons (nv 0) pa_nil)) pe_int))
      (pss_cons (ps_if (nCmp (oEq (K := K) hr.units) (nv 0) (pe_op (oAdd (K := K)) (pe_op (oMul (K := K)) pe_str (nv 1)) (nGlobS T.m_LEAF)) (nomark _)) (pss_one (ps_ret (nv 1))) pss_nil)
      (pss_one (ps_ret pe_non)))), ?_⟩)
  obtain ⟨l, rfl, hl, k⟩ := h
  have hz : sizeLine = 16777216 := sizeLine_eq
  have two : (("10" : Str)).length = 2 := rfl
  have one : (("0" : Str)).length = 1 := rfl
  have rl := repS_length ("10" : Str) (l.length / 2)
  have e1 : (((S l).length : Nat) : Int) / 2 = ((l.length / 2 : Nat) : Int) := by
    show ((l.length : Nat) : Int) / 2 = _
    omega
  refine ⟨by rw [S_len]; omega, ⟨by decide, by decide⟩, ?_⟩
  rw [e1]
  refine ⟨⟨by omega, by omega, by rw [two, Int.toNat_natCast]; omega⟩, by rw [Int.toNat_natCast, rl, two, one]; omega, ?_⟩
  rw [Int.toNat_natCast, tens_str]
  refine iteS (fun e => ?_) (fun e => ?_)
  · have : valueOf l = .int (l.length / 2 : Nat) := if_pos (S_inj e)
    rw [this] at k
    exact k
  · have : valueOf l = .non := if_neg (fun q => e (by rw [← q]))
    rw [this] at k
    exact k
end
def sp_L_drawL (K : PySem.W.Frag) (_ : Str → Option Value) : Sp := fun vs H Q _ => ∃ (p q : Addr) (ns : List Int) (a b c m : Int), vs = [.ref p, .int m] ∧ 0 < m ∧ m < 1000000 ∧ p ≠ q ∧ H q = some (.lst (ns.map V.int)) ∧ H p = some (.lst [.ref q, .int a, .int b, .int c]) ∧ 0 ≤ b ∧
  ∀ (v a' b' c' : Int), 0 ≤ v → v < m → 0 ≤ b' → Q (.int v) (upd H p (.lst [.ref q, .int a', .int b', .int c']))
def sp_L_draw (K : PySem.W.Frag) (_ : Str → Option Value) : Sp := fun vs H Q _ => ∃ (p : Addr) (m : Int), vs = [.ref p, .int m] ∧ 0 < m ∧ m < 1000000 ∧ StrmAt H p ∧ ∀ (v : Int), 0 ≤ v → v < m → StrmAt H p → Q (.int v) H

section
variable {P : Program} {w : World} {K : PySem.W.Frag} {mg : Str → Option Value} {base : Heap}
theorem ok_L_draw (T : Txt K mg) : Cal P w K mg base CX0 1 "_law_draw" ["_law_stream_here", "_law_many"] (sp_L_draw K mg) := by
  refine Cal.unseal (sp := sp_L_drawL K mg) (T.f_L_draw.ok sc_L_draw (fun vs H Q E h => (by obtain ⟨_, _, _, _, _, _, _, rfl, _⟩ := h; rfl)) (fun f cdv A outer s H vs Q E hr h => ⟨_, (Evl.pss_cut (ps_if (PW.pt (pw_and (nCmp (oEq (K := K) hr.units) (pe_ix (ixU (K := K)) (nv 0) pe_int (fun _ _ => rfl)) pe_int (nomark _)) (pw_and1 (nCmp oLt (pe_ix (ixU (K := K)) (nv 0) pe_int (fun _ _ => rfl)) (pe_callB (cLen (K := K)) (by rfl) T.n_len PySem.boot_len (pa_cons (pe_ix (ixU (K := K)) (nv 0) pe_int (fun _ _ => rfl)) pa_nil)) (nomark _))))) (pss_cons (ps_asg (pe_callB cAbs (by rfl) T.n_abs PyProof.Rows.boot_abs (pa_cons (pe_callTy cInt (by rfl) T.n_int PyProof.Rows.boot_int (pa_cons (pe_ix (ixU (K := K)) (pe_ix (ixU (K := K)) (nv 0) pe_int (fun _ _ => rfl)) (pe_ix (ixU (K := K)) (nv 0) pe_int (fun _ _ => rfl)) (fun _ _ => rfl)) pa_nil)) pa_nil)) (pg_sub (nv 0) pe_int set_list))
      (pss_one (ps_asg (pe_op (oAdd (K := K)) (pe_ix (ixU (K := K)) (nv 0) pe_int (fun _ _ => rfl)) pe_int) (pg_sub (nv 0) pe_int set_list)))) pss_nil)
      (pss_cons (ps_if (nCmp (oEq (K := K) hr.units) (pe_ix (ixU (K := K)) (nv 0) pe_int (fun _ _ => rfl)) pe_int (nomark _)) (pss_cons (ps_asg (pe_op oMod (pe_callTy cInt (by rfl) T.n_int PyProof.Rows.boot_int (pa_cons (pe_op (oAdd (K := K)) (pe_op (oMul (K := K)) (pe_ix (ixU (K := K)) (nv 0) pe_int (fun _ _ => rfl)) pe_int) pe_int) pa_nil)) pe_int) (pg_sub (nv 0) pe_int set_list))
      (pss_one (ps_ret (pe_op oMod (pe_callTy cInt (by rfl) T.n_int PyProof.Rows.boot_int (pa_cons (pe_op oDiv (pe_ix (ixU (K := K)) (nv 0) pe_int (fun _ _ => rfl)) pe_int) pa_nil)) (nv 1))))) pss_nil)
      (pss_cons (ps_set (i := 2) sc_L_draw.nd rfl (.inl rfl) (pe_op oMod (pe_callTy cInt (by rfl) T.n_int PyProof.Rows.boot_int (pa_cons (pe_ix (ixU (K := K)) (nv 0) pe_int (fun _ _ => rfl)) pa_nil)) (nv 1)))
      (pss_cons (ps_asg (pe_op oDiv (pe_ix (ixU (K := K)) (nv 0) pe_int (fun _ _ => rfl)) (nv 1)) (pg_sub (nv 0) pe_int set_list))
      (pss_one (ps_ret (nv 2))))))), ?_⟩)) (fun vs H Q E h => (by obtain ⟨_, _, rfl, _⟩ := h; rfl)) ?_
  · obtain ⟨p, q, ns, a, b, c, m, rfl, hm, hm2, npq, hq, hp, hb, k⟩ := h
    -- behind the refill: the pool and the place are others
    refine ⟨fun σ' H' => σ' = [some (.ref p), some (.int m), none] ∧ ∃ (a' b' : Int), 0 ≤ b' ∧ H' = upd H p (.lst [.ref q, .int a', .int b', .int c]), ?_, ?_⟩
    · refine ⟨_, _, .l hp, rfl, iteI (fun e1 => ?_) (fun e1 => ⟨rfl, a, b, hb, ?_⟩)⟩
      · refine ⟨_, _, .l hp, rfl, _, _, .l hp, rfl, _, .l hq, iteD (fun e2 => ?_) (fun e2 => ⟨rfl, a, b, hb, ?_⟩)⟩
        · obtain ⟨z, hx⟩ := atI_int hb e2
          refine ⟨_, _, .l hp, rfl, _, _, .l hp, rfl, _, _, .l hq, hx, p, _, 1, 1, rfl, rfl, hp, rfl, ?_⟩
          refine ⟨_, _, .l upd_same, rfl, p, _, 2, 2, rfl, rfl, upd_same, rfl, rfl, _, b + 1, by omega, upd_upd⟩
        · exact (upd_self hp).symm
      · exact (upd_self hp).symm
    · rintro σ' H' ⟨rfl, a', b', hb', rfl⟩
      refine ⟨_, _, .l upd_same, rfl, iteI (fun e1 => ?_) (fun e1 => ?_)⟩
      · refine ⟨_, _, .l upd_same, rfl, .inr ⟨by decide, by decide⟩, by decide, p, _, 3, 3, rfl, rfl, upd_same, rfl, ?_⟩
        refine ⟨_, _, .l upd_same, rfl, ⟨by decide, by decide⟩, hm, ?_⟩
        rw [upd_upd]
        exact k _ _ _ _ (Int.emod_nonneg _ (by omega)) (Int.emod_lt_of_pos _ hm) hb'
      · refine ⟨_, _, .l upd_same, rfl, hm, _, _, .l upd_same, rfl, ⟨hm, by omega⟩, p, _, 1, 1, rfl, rfl, upd_same, rfl, ?_⟩
        rw [upd_upd]
        exact k _ _ _ _ (Int.emod_nonneg _ (by omega)) (Int.emod_lt_of_pos _ hm) hb'
  · rintro vs H Q E ⟨p, m, rfl, hm, hm2, st, k⟩
    refine ⟨p, st, fun q ns a b c hp hq hb => ⟨p, q, ns, a, b, c, m, rfl, hm, hm2, ?_, ?_, upd_same, hb, fun v a' b' c' h0 h1 h2 => ⟨k v h0 h1 st, a', b', c', h2, rfl⟩⟩⟩
    · intro e; rw [e, hq] at hp; cases hp
    · rw [upd_ne (fun e => by rw [e, hp] at hq; cases hq)]; exact hq
end
def sp_L_tree (K : PySem.W.Frag) (_ : Str → Option Value) : Sp := fun vs H Q _ => ∃ (p : Addr) (n : Nat), vs = [.ref p, .int n] ∧ n ≤ 1000 ∧ StrmAt H p ∧ ∀ t : Tr, t.pairs ≤ n → StrmAt H p → Q (.str (S t.enc)) H

section
variable {P : Program} {w : World} {K : PySem.W.Frag} {mg : Str → Option Value} {base : Heap}
theorem ok_L_tree (T : Txt K mg)
    (c_L_draw : Cal P w K mg base CX0 1 "_law_draw" ["_law_stream_here", "_law_many"] (sp_L_draw K mg)) : Cal P w K mg base CX0 2 "_law_tree" ["_law_stream_here", "_law_pairs"] (sp_L_tree K mg) := by
  refine T.f_L_tree.ok sc_L_tree (fun vs H Q E h => (by obtain ⟨_, _, rfl, _⟩ := h; rfl)) (fun f cdv A outer s H vs Q E hr h => ⟨_, (pss_cons (ps_set (i := 2) sc_L_tree.nd rfl (.inl rfl) pe_str)
      (pss_cons (ps_set (i := 3) sc_L_tree.nd rfl (.inl rfl) pe_int)
      (pss_cons (ps_while PassesOwn.never (nCmp oGt (nv 3) pe_int (nomark _)) (pss_one (ps_if (PW.pt (pw_or (PW.pt (pw_and (nCmp oGt (nv 1) pe_int (nomark _)) (pw_and1 (nCmp oLt (nCall c_L_draw (hr.mono (by decide)) pass0 (pa_cons (nv 0) (pa_cons (pe_op (oAdd (K := K)) (nv 3) pe_int) pa_nil))) (nv 3) (nomark _))))) (pw_or1 (PW.pt (pw_and (nCmp oGt (nv 1) pe_int (nomark _)) (pw_and (nCmp (oEq (K := K) hr.units) (nv 3) pe_int (nomark _)) (pw_and1 (nCmp oGt (nCall c_L_draw (hr.mono (by decide)) pass0 (pa_cons (nv 0) (pa_cons pe_int pa_nil))) pe_int (nomark _))))))))) (pss_cons (ps_set (i := 2) sc_L_tree.nd rfl (.inl rfl) (pe_op (oAdd (K := K)) (nv 2) pe_str))
      (pss_cons (ps_set (i := 3) sc_L_tree.nd rfl (.inl rfl) (pe_op (oAdd (K := K)) (nv 3) pe_int))
      (pss_one (ps_set (i := 1) sc_L_tree.nd rfl (.inl rfl) (pe_op oSub (nv 1) pe_int))))) (pss_cons (ps_set (i := 2) sc_L_tree.nd rfl (.inl rfl) (pe_op (oAdd (K := K)) (nv 2) pe_str))
      (pss_one (ps_set (i := 3) sc_L_tree.nd rfl (.inl rfl) (pe_op oSub (nv 3) pe_int)))))))
      (pss_one (ps_ret (nv 2)))))), ?_⟩)
  obtain ⟨p, n, rfl, hn, st, k⟩ := h
  refine ⟨fun m σ' H' => H' = H ∧ ∃ (s : List Nat) (mi pa : Nat), σ' = [some (.ref p), some (.int pa), some (.str (S s)), some (.int mi)] ∧ scan 1 s = some mi ∧ s.length + mi = 2 * (n - pa) + 1 ∧ pa ≤ n ∧ m = 2 * pa + mi, ⟨2 * n + 1, rfl, [], 1, n, rfl, rfl, by simp, Nat.le_refl _, rfl⟩, ?_⟩
  rintro m σ' H' ⟨rfl, s, mi, pa, rfl, hs, hl, hp, rfl⟩
  refine iteD (fun h0 => ?_) (fun h0 => ?_)
  · refine ⟨fun σ2 H2 => H2 = H' ∧ ∃ (s : List Nat) (mi' pa' : Nat), σ2 = [some (.ref p), some (.int pa'), some (.str (S s)), some (.int mi')] ∧ scan 1 s = some mi' ∧ s.length + mi' = 2 * (n - pa') + 1 ∧ pa' ≤ n ∧ 2 * pa' + mi' < 2 * pa + mi, ?_, ?_⟩
    · rintro σ2 H2 ⟨rfl, s', mi', pa', rfl, h1, h2, h3, h4⟩
      exact ⟨2 * pa' + mi', h4, rfl, s', mi', pa', rfl, h1, h2, h3, rfl⟩
    · obtain ⟨j, rfl⟩ : ∃ j, mi = j + 1 := ⟨mi - 1, by omega⟩
      have hz : sizeLine = 16777216 := sizeLine_eq
      -- a pair
      have yes : 0 < pa → ∃ (s' : List Nat) (mi' pa' : Nat), (([some (V.ref p), some (.int pa), some (.str (S s)), some (.int ((j + 1 : Nat) : Int))].set 2 (some (.str (S s ++ ("1" : Str))))).set 3 (some (.int (((j + 1 : Nat) : Int) + 1)))).set 1 (some (.int ((pa : Int) - 1))) = [some (.ref p), some (.int pa'), some (.str (S s')), some (.int mi')] ∧ scan 1 s' = some mi' ∧ s'.length + mi' = 2 * (n - pa') + 1 ∧ pa' ≤ n ∧ 2 * pa' + mi' < 2 * pa + (j + 1) := by
        intro hpa
        refine ⟨s ++ [49], j + 2, pa - 1, ?_, ?_, ?_, by omega, by omega⟩
        · rw [S_app1, show ((j + 1 : Nat) : Int) + 1 = ((j + 2 : Nat) : Int) by omega, show (pa : Int) - 1 = ((pa - 1 : Nat) : Int) by omega]
          rfl
        · rw [scan_append, hs]; rfl
        · rw [List.length_append]; simp only [List.length_cons, List.length_nil]; omega
      have no : ∃ (s' : List Nat) (mi' pa' : Nat), ([some (V.ref p), some (.int pa), some (.str (S s)), some (.int ((j + 1 : Nat) : Int))].set 2 (some (.str (S s ++ ("0" : Str))))).set 3 (some (.int (((j + 1 : Nat) : Int) - 1))) = [some (.ref p), some (.int pa'), some (.str (S s')), some (.int mi')] ∧ scan 1 s' = some mi' ∧ s'.length + mi' = 2 * (n - pa') + 1 ∧ pa' ≤ n ∧ 2 * pa' + mi' < 2 * pa + (j + 1) := by
        refine ⟨s ++ [48], j, pa, ?_, ?_, ?_, by omega, by omega⟩
        · rw [S_app0, show ((j + 1 : Nat) : Int) - 1 = (j : Int) by omega]
          rfl
        · rw [scan_append, hs]; rfl
        · rw [List.length_append]; simp only [List.length_cons, List.length_nil]; omega
      have len1 : (S s).length + (("1" : Str)).length ≤ sizeLine := by
        show s.length + 1 ≤ sizeLine
        omega
      refine iteD (fun hpa => ?_) (fun hpa => ?_)
      · refine ⟨p, _, rfl, by omega, by omega, st, fun v hv0 hv1 _ => iteD (fun hv => ⟨len1, rfl, yes (by omega)⟩) (fun hv => iteD (fun _ => iteI (fun e1 => ⟨p, _, rfl, by decide, by decide, st, fun v hv0 hv1 _ => iteD (fun hv => ⟨len1, rfl, yes (by omega)⟩) (fun hv => ⟨len1, rfl, no⟩)⟩) (fun e1 => ⟨len1, rfl, no⟩)) (fun hq => absurd hpa hq))⟩
      · exact iteD (fun hq => absurd hq hpa) (fun _ => ⟨len1, rfl, no⟩)
  · have e0 : mi = 0 := by omega
    subst e0
    obtain ⟨t, rfl⟩ := scan_tree hs
    refine k t ?_ st
    have := t.enc_len
    omega
end
def wordsD : List PyData := [.tuple [.str ("refused" : Str)], .tuple [.str ("large" : Str)], .tuple [.str ("wide" : Str)]]
/-- a value that is told: no None, and no tuple whose first part is one of three words -/
inductive GivenOk (K : PySem.W.Frag) (H : Hp) : V → Prop
  | str (s : Str) : GivenOk K H (.str s)
  | int (i : Int) : GivenOk K H (.int i)
  | bl (b : Bool) : GivenOk K H (.bl b)
  | lst {a : Addr} (h : TyX K H (.ref a) (.type "list")) : GivenOk K H (.ref a)
  | tup {a : Addr} {x : V} {d : PyData} {xs : List V} (h : H a = some (.tup (x :: xs))) (hd : Dp K H x d) (hn : nb d = true) (hp : d.depth ≤ 60) (h1 : d ≠ .str ("refused" : Str)) (h2 : d ≠ .str ("large" : Str)) (h3 : d ≠ .str ("wide" : Str)) : GivenOk K H (.ref a)
def sp_L_given (K : PySem.W.Frag) (_ : Str → Option Value) : Sp := fun vs H Q _ => ∃ (v : V), vs = [v] ∧ GivenOk K H v ∧ ∀ H', Ex H H' → Q v H'

section
variable {P : Program} {w : World} {K : PySem.W.Frag} {mg : Str → Option Value} {base : Heap}
theorem ok_L_given (T : Txt K mg) : Cal P w K mg base CX0 1 "_law_given" ["_law_told_here"] (sp_L_given K mg) := by
  refine T.f_L_given.ok sc_L_given (fun vs H Q E h => (by obtain ⟨_, rfl, _⟩ := h; rfl)) (fun f cdv A outer s H vs Q E hr h => ⟨_, (pss_cons (ps_if (PW.pt (pw_or (nCmp oIs (nv 0) pe_non (nomark _)) (pw_or1 (PW.pt (pw_and (nVal (pe_callB (cIsi (K := K)) (by rfl) T.n_isinstance PyProof.Rows.boot_isinstance (pa_cons (nv 0) (pa_cons (nTy T.n_tuple PyProof.Rows.boot_tuple) pa_nil)))) (pw_and1 (nCmp (oInD (K := K) hr) (pe_slice (slU (K := K)) (nv 0) po_none (po_some pe_int)) (pe_tup (pa_cons (pe_tup (pa_cons pe_str pa_nil)) (pa_cons (pe_tup (pa_cons pe_str pa_nil)) (pa_cons (pe_tup (pa_cons pe_str pa_nil)) pa_nil)))) (by rfl)))))))) (pss_one (ps_ret (pe_lst (pa_cons pe_str pa_nil)))) pss_nil)
      (pss_one (ps_ret (nv 0)))), ?_⟩)
  obtain ⟨v, rfl, g, k⟩ := h
  cases g with
  | str s => exact ⟨false, rfl, k _ (Ex.refl _)⟩
  | int i => exact ⟨false, rfl, k _ (Ex.refl _)⟩
  | bl b => exact ⟨false, rfl, k _ (Ex.refl _)⟩
  | lst ty => exact ⟨_, false, ty, rfl, k _ (Ex.refl _)⟩
  | @tup a x d xs ha hd hn hp h1 h2 h3 =>
    refine ⟨_, true, .base (.tup ha), rfl, ?_⟩
    have hnb : nb (.tuple [d]) = true := by
      show (nb d && true) = true
      rw [hn]; rfl
    have sh : SeqAt.shaped (.tuple [d]) = true := shaped_of hnb (by
      have : (PyData.tuple [d]).depth = d.depth + 1 := by simp [PyData.depth, PyData.depthAll]
      omega)
    have no : (wordsD.any fun z => PyData.eqv z (.tuple [d])) = false := by
      have one : ∀ w : Str, nb (.str w) = true → d ≠ .str w → PyData.eqv (.tuple [.str w]) (.tuple [d]) = false := fun w hw ne => by
        cases q : PyData.eqv (.tuple [.str w]) (.tuple [d]) with
        | false => rfl
        | true =>
          have := (eqv_nb _ _ (by show (nb (.str w) && true) = true; rw [hw]; rfl) hnb).mp q
          injection this with this
          injection this with this
          exact absurd this.symm ne
      show (PyData.eqv (.tuple [.str ("refused" : Str)]) _ || (PyData.eqv (.tuple [.str ("large" : Str)]) _ || (PyData.eqv (.tuple [.str ("wide" : Str)]) _ || false))) = false
      rw [one _ (by decide +kernel) h1, one _ (by decide +kernel) h2, one _ (by decide +kernel) h3]
      rfl
    refine ⟨1, rfl, .inr ⟨a, _, rfl, .of ha, fun hw => ?_, fun hw b nb => ?_⟩⟩
    · have e0 := Ex.refl H
      have hD : Dp K H (.ref a) (.tuple [d]) := by
        have hl : (x :: xs).length = 1 := by
          have := hw.2
          rw [show (1 : Int) = ((1 : Nat) : Int) from rfl, HT.sIx_nat] at this
          rw [List.length_cons] at this ⊢
          omega
        have : xs = [] := by
          rw [List.length_cons] at hl
          exact List.length_eq_zero_iff.mp (by omega)
        subst this
        exact .tup (.of ha) (.cons hd .nil)
      refine ⟨by show 1 ≤ sizeLine; decide, fun p1 n1 => ⟨by show 1 ≤ sizeLine; decide, fun p2 n2 => ⟨by show 1 ≤ sizeLine; decide, fun p3 n3 => ⟨by show 3 ≤ sizeLine; decide, fun p4 n4 => ?_⟩⟩⟩⟩
      have x1 := Evl.Ex.new (o := .tup [V.str ("refused" : Str)]) n1
      have x2 := Evl.Ex.new (o := .tup [V.str ("large" : Str)]) n2
      have x3 := Evl.Ex.new (o := .tup [V.str ("wide" : Str)]) n3
      have x4 := Evl.Ex.new (o := .tup [V.ref p1, .ref p2, .ref p3]) n4
      refine ⟨_, wordsD, Dp.mono (x1.trans (x2.trans (x3.trans x4))) _ hD, .tup (.of upd_same) (.cons (.tup (.of ((x2.trans (x3.trans x4)) _ _ upd_same)) (.cons (.str _) .nil)) (.cons (.tup (.of ((x3.trans x4) _ _ upd_same)) (.cons (.str _) .nil)) (.cons (.tup (.of (x4 _ _ upd_same)) (.cons (.str _) .nil)) .nil))), sh, by decide +kernel, ?_⟩
      rw [no]
      exact k _ (e0.trans (x1.trans (x2.trans (x3.trans x4))))
    · have e0 := Evl.Ex.new (o := .tup (cutV (x :: xs) none (some 1))) nb
      have hD : Dp K (upd H b (.tup (cutV (x :: xs) none (some 1)))) (.ref b) (.tuple [d]) := by
        have hc : cutV (x :: xs) none (some 1) = [x] := by
          unfold cutV
          rw [show (1 : Int) = ((1 : Nat) : Int) from rfl, HT.sIx_nat, HT.sIx_none]
          rw [List.length_cons, show min 1 (xs.length + 1) = 1 by omega]
          rfl
        rw [hc]
        exact .tup (.of upd_same) (.cons (Dp.mono (Evl.Ex.new nb) _ hd) .nil)
      refine ⟨by show 1 ≤ sizeLine; decide, fun p1 n1 => ⟨by show 1 ≤ sizeLine; decide, fun p2 n2 => ⟨by show 1 ≤ sizeLine; decide, fun p3 n3 => ⟨by show 3 ≤ sizeLine; decide, fun p4 n4 => ?_⟩⟩⟩⟩
      have x1 := Evl.Ex.new (o := .tup [V.str ("refused" : Str)]) n1
      have x2 := Evl.Ex.new (o := .tup [V.str ("large" : Str)]) n2
      have x3 := Evl.Ex.new (o := .tup [V.str ("wide" : Str)]) n3
      have x4 := Evl.Ex.new (o := .tup [V.ref p1, .ref p2, .ref p3]) n4
      refine ⟨_, wordsD, Dp.mono (x1.trans (x2.trans (x3.trans x4))) _ hD, .tup (.of upd_same) (.cons (.tup (.of ((x2.trans (x3.trans x4)) _ _ upd_same)) (.cons (.str _) .nil)) (.cons (.tup (.of ((x3.trans x4) _ _ upd_same)) (.cons (.str _) .nil)) (.cons (.tup (.of (x4 _ _ upd_same)) (.cons (.str _) .nil)) .nil))), sh, by decide +kernel, ?_⟩
      rw [no]
      exact k _ (e0.trans (x1.trans (x2.trans (x3.trans x4))))
end
def sp_trees_number (K : PySem.W.Frag) (mg : Str → Option Value) : Sp := fun vs H Q E => ∃ (n : Nat), vs = [.int n] ∧ n ≤ 1000000 ∧ (2 * n + 1 > 200000 → ∀ cls, mg "TooLarge" = some cls → E cls none H) ∧ (2 * n + 1 ≤ 200000 → Q (.str (S (tens n))) H)

section
variable {P : Program} {w : World} {K : PySem.W.Frag} {mg : Str → Option Value} {base : Heap}
theorem ok_trees_number (T : Txt K mg) : Cal P w K mg base (L2.CX P w) 1 "number" ["value"] (sp_trees_number K mg) := by
  refine T.f_trees_number.okX sc_trees_number (fun vs H Q E h => (by obtain ⟨_, rfl, _⟩ := h; rfl)) (fun f cdv A outer s H vs Q E hr h => ?_)
  have tk := takes_of (X := cxOf (L2.CX P w) P w K mg base ["value"] "number" (defScope s_trees_number) f cdv A outer s H E) rfl rfl rfl rfl
  refine ⟨_, (pss_cons (ps_if (nCmp oGt (pe_op (oAdd (K := K)) (pe_op (oMul (K := K)) pe_int (nv 0)) pe_int) (nGlobI T.m_MOST_TREE) (nomark _)) (pss_one (ps_raise rfl tk (nMk T.x_TooLarge))) pss_nil)
      (pss_one (ps_ret (pe_op (oAdd (K := K)) (pe_op (oMul (K := K)) pe_str (nv 0)) (nGlobS T.m_LEAF))))), ?_⟩
  obtain ⟨n, rfl, hn, kx, k⟩ := h
  have hz : sizeLine = 16777216 := sizeLine_eq
  refine ⟨.inl ⟨by decide, by decide⟩, iteD (fun hg => ?_) (fun hg => ?_)⟩
  · exact kx (by omega)
  · have two : (("10" : Str)).length = 2 := rfl
    have one : (("0" : Str)).length = 1 := rfl
    have rl := repS_length ("10" : Str) n
    refine ⟨⟨by omega, by omega, by rw [two, Int.toNat_natCast]; omega⟩, by rw [Int.toNat_natCast, rl, two, one]; omega, ?_⟩
    rw [Int.toNat_natCast, tens_str]
    exact k (by omega)
end
def sp_L_told (K : PySem.W.Frag) (mg : Str → Option Value) : Sp := fun vs H Q E => ∃ (n : Nat), vs = [.int n] ∧ n ≤ 1000000 ∧ (2 * n + 1 > 200000 → ∀ p H', Ex H H' → H' p = some (.tup [.str ("refused" : Str), .str ("large" : Str)]) → Q (.ref p) H') ∧ (2 * n + 1 ≤ 200000 → ∀ H', Ex H H' → Q (.str (S (tens n))) H')

section
variable {P : Program} {w : World} {K : PySem.W.Frag} {mg : Str → Option Value} {base : Heap}
theorem ok_L_told (T : Txt K mg)
    (c_L_given : Cal P w K mg base CX0 1 "_law_given" ["_law_told_here"] (sp_L_given K mg))
    (c_trees_number : Cal P w K mg base (L2.CX P w) 1 "number" ["value"] (sp_trees_number K mg)) : Cal P w K mg base CX0 2 "_law_told" ["_law_value"] (sp_L_told K mg) := by
  refine T.f_L_told.ok sc_L_told (fun vs H Q E h => (by obtain ⟨_, rfl, _⟩ := h; rfl)) (fun f cdv A outer s H vs Q E hr h => ⟨_, (pss_one (nTryOnly (Wout := fun _ _ _ _ => False) rfl rfl T.x_TooLarge takes0 (fun W pn xe tk po => (pss_one (ps_ret (nCall c_L_given (hr.mono (by decide)) pass0 (pa_cons (nCallS c_trees_number (hr.mono (by decide)) (fun σ => passAt tk σ) (pa_cons (nv 0) pa_nil)) pa_nil))))) (fun _ _ _ _ _ _ _ => (pss_one (ps_ret (pe_tup (pa_cons pe_str (pa_cons pe_str pa_nil)))))))), ?_⟩)
  obtain ⟨n, rfl, hn, kx, k⟩ := h
  intro c hc
  refine ⟨n, rfl, hn, fun hg cls hcls => ⟨true, T.e_TooLarge_TooLarge _ _ hcls hc, fun _ a ha => ?_, fun q => Bool.noConfusion q⟩, fun hl => ?_⟩
  · exact ⟨by show 2 ≤ sizeLine; decide, fun p np => kx hg p _ (Evl.Ex.new np) upd_same⟩
  · exact ⟨_, rfl, .str _, fun H' e => k hl H' e⟩
end
def sp_L_streamL (K : PySem.W.Frag) (_ : Str → Option Value) : Sp := fun vs H Q _ => ∃ (a : Addr) (ns : List Int), vs = [.ref a] ∧ SqL K H a (ns.map V.int) ∧
  ∀ (p q : Addr) (H' : Hp) (c : Int), Ex H H' → H p = none → p ≠ q → H' q = some (.lst (ns.map V.int)) → H' p = some (.lst [.ref q, .int 0, .int 0, .int c]) → Q (.ref p) H'
def sp_L_stream (K : PySem.W.Frag) (_ : Str → Option Value) : Sp := fun vs H Q _ => ∃ (a : Addr) (ns : List Int), vs = [.ref a] ∧ SqL K H a (ns.map V.int) ∧
  ∀ (p : Addr) (H' : Hp), Ex H H' → StrmAt H' p → Q (.ref p) H'

section
variable {P : Program} {w : World} {K : PySem.W.Frag} {mg : Str → Option Value} {base : Heap}
theorem ok_L_stream (T : Txt K mg) : Cal P w K mg base CX0 1 "_law_stream" ["_law_script"] (sp_L_stream K mg) := by
  refine Cal.seal (sp := sp_L_streamL K mg) (T.f_L_stream.ok sc_L_stream (fun vs H Q E h => (by obtain ⟨_, _, rfl, _⟩ := h; rfl)) (fun f cdv A outer s H vs Q E hr h => ⟨_, (pss_cons (ps_set (i := 1) sc_L_stream.nd rfl (.inl rfl) pe_int)
      (pss_cons (ps_for PassesOwn.never rfl (piAny (K := K) (nv 0)) (pg_name (i := 2) sc_L_stream.nd rfl (.inl rfl)) (pss_one (ps_set (i := 1) sc_L_stream.nd rfl (.inl rfl) (pe_op oMod (pe_callTy cInt (by rfl) T.n_int PyProof.Rows.boot_int (pa_cons (pe_op (oAdd (K := K)) (pe_op (oAdd (K := K)) (pe_op (oMul (K := K)) (nv 1) pe_int) (pe_op oMod (pe_callTy cInt (by rfl) T.n_int PyProof.Rows.boot_int (pa_cons (nv 2) pa_nil)) pe_int)) pe_int) pa_nil)) pe_int))))
      (pss_one (ps_ret (pe_lst (pa_cons (pe_callTy (cList (K := K)) (by rfl) T.n_list PyProof.Rows.boot_list (pa_cons (nv 0) pa_nil)) (pa_cons pe_int (pa_cons pe_int (pa_cons (nv 1) pa_nil))))))))), ?_⟩)) ?_
  · obtain ⟨a, ns, rfl, hS, k⟩ := h
    refine .inl ⟨⟨_, hS⟩, for_list (K := K) (a := a) (xs := ns.map V.int) (fun i σ H' => H' = H ∧ ∃ (c : Int) (v : Option V), σ = [some (.ref a), some (.int c), v]) ⟨rfl, 17, none, rfl⟩ (fun i σ H' _ e => by rw [e.1]; exact hS) ?_ ?_⟩
    · rintro i x σ H' hi ⟨rfl, c, v, rfl⟩
      obtain ⟨z, rfl⟩ : ∃ z, x = V.int z := by
        rw [List.getElem?_map] at hi
        cases e : ns[i]? with
        | none => rw [e] at hi; cases hi
        | some u => rw [e] at hi; exact ⟨u, (Option.some.inj hi).symm⟩
      refine ⟨.inr ⟨by decide, by decide⟩, by decide, by decide, rfl, _, _, rfl⟩
    · rintro σ H' ⟨rfl, c, v, rfl⟩
      refine ⟨_, .inl hS, fun q nq => ⟨by show 4 ≤ sizeLine; decide, fun p np => ?_⟩⟩
      have npq : p ≠ q := fun e => by rw [e, upd_same] at np; cases np
      have np' : H' p = none := by rw [upd_ne npq] at np; exact np
      exact k p q _ c ((Evl.Ex.new nq).trans (Evl.Ex.new np)) np' npq (by rw [upd_ne npq.symm, upd_same]) upd_same
  · rintro vs H Q E ⟨a, ns, rfl, hS, k⟩
    refine ⟨a, ns, rfl, hS, fun p q H' c e np npq hq hp => ⟨p, q, 0, 0, c, hp, by decide, k p _ (e.mut np) ⟨q, ns, upd_same, by rw [upd_ne npq.symm]; exact hq⟩⟩⟩
end
theorem valueOf_tens (n : Nat) : valueOf (tens n) = .int n := by
  have e : (tens n).length / 2 = n := by rw [tens_len]; omega
  unfold valueOf
  rw [e, if_pos rfl]
theorem tens_succ (n : Nat) : tens (n + 1) = 49 :: 48 :: tens n := by
  unfold tens
  rw [List.replicate_succ, List.flatten_cons, List.append_assoc]
  rfl
theorem no_tens : ∀ (many m : Nat) (r : List Nat), (List.replicate many [49, 48]).flatten ++ (49 :: 49 :: r) ≠ tens m
  | 0, 0, r, h => by simp [tens] at h
  | 0, m + 1, r, h => by
    rw [tens_succ] at h
    simp at h
  | many + 1, 0, r, h => by
    have := congrArg List.length h
    rw [tens_len, List.length_append, flat_len] at this
    simp only [List.length_cons, List.length_nil] at this
    omega
  | many + 1, m + 1, r, h => by
    rw [tens_succ, List.replicate_succ, List.flatten_cons, List.append_assoc] at h
    have h' : 49 :: 48 :: ((List.replicate many [49, 48]).flatten ++ (49 :: 49 :: r)) = 49 :: 48 :: tens m := h
    injection h' with _ h'
    injection h' with _ h'
    exact no_tens many m r h'
theorem valueOf_cases (l : List Nat) : valueOf l = .non ∨ ∃ i : Int, valueOf l = .int i := by
  unfold valueOf
  by_cases h : l = tens (l.length / 2)
  · rw [if_pos h]; exact .inr ⟨_, rfl⟩
  · rw [if_neg h]; exact .inl rfl

section
variable {P : Program} {w : World} {K : PySem.W.Frag} {mg : Str → Option Value} {base : Heap}
theorem ok_L_law {f : Addr} {fd : FuncData} (T : Txt K mg) (F : Fun K "law" "law" s_L_law f fd)
    (c_trees_value_of : Cal P w K mg base CX0 1 "value_of" ["tree"] (sp_trees_value_of K mg))
    (c_L_tree : Cal P w K mg base CX0 2 "_law_tree" ["_law_stream_here", "_law_pairs"] (sp_L_tree K mg))
    (c_L_draw : Cal P w K mg base CX0 1 "_law_draw" ["_law_stream_here", "_law_many"] (sp_L_draw K mg))
    (c_L_told : Cal P w K mg base CX0 2 "_law_told" ["_law_value"] (sp_L_told K mg))
    (c_L_stream : Cal P w K mg base CX0 1 "_law_stream" ["_law_script"] (sp_L_stream K mg)) : FnOk P w K mg base CX0 3 f fd ["_law_script"] (spLaw K mg) := by
  refine F.ok sc_L_law (fun vs H Q E h => (by obtain ⟨_, _, rfl, _⟩ := h; rfl)) (fun cdv A outer s H vs Q E hr h => ⟨_, (pss_cons (ps_set (i := 1) sc_L_law.nd rfl (.inl rfl) (nCall c_L_stream (hr.mono (by decide)) pass0 (pa_cons (nv 0) pa_nil)))
      (pss_cons (ps_set (i := 2) sc_L_law.nd rfl (.inl rfl) (nCall c_L_draw (hr.mono (by decide)) pass0 (pa_cons (nv 1) (pa_cons pe_int pa_nil))))
      (Evl.pss_cut (ps_if (nCmp (oEq (K := K) hr.units) (nCall c_L_draw (hr.mono (by decide)) pass0 (pa_cons (nv 1) (pa_cons pe_int pa_nil))) pe_int (nomark _)) (pss_one (ps_set (i := 2) sc_L_law.nd rfl (.inl rfl) (pe_op (oAdd (K := K)) pe_int (nCall c_L_draw (hr.mono (by decide)) pass0 (pa_cons (nv 1) (pa_cons pe_int pa_nil)))))) pss_nil)
      (pss_cons (ps_set (i := 3) sc_L_law.nd rfl (.inl rfl) (pe_op (oAdd (K := K)) (pe_op (oMul (K := K)) pe_str (nv 2)) pe_str))
      (pss_cons (ps_if (nCmp oGt (pe_callB (cLen (K := K)) (by rfl) T.n_len PySem.boot_len (pa_cons (nv 3) pa_nil)) pe_int (nomark _)) (pss_one (ps_ret (pe_cmpR (oEq (K := K) hr.units) (nCall c_L_told (hr.mono (by decide)) pass0 (pa_cons (nv 2) pa_nil)) (pe_tup (pa_cons pe_str (pa_cons pe_str pa_nil))) (nomark _)))) pss_nil)
      (pss_cons (ps_if (PW.pt (pw_or (nCmp (oNe (K := K) hr.units) (nCall c_L_told (hr.mono (by decide)) pass0 (pa_cons (nv 2) pa_nil)) (nv 3) (nomark _)) (pw_or (nCmp (oNe (K := K) hr.units) (nCall c_trees_value_of (hr.mono (by decide)) pass0 (pa_cons (nv 3) pa_nil)) (nv 2) (nomark _)) (pw_or1 (nVal (pe_callB (cIsi (K := K)) (by rfl) T.n_isinstance PyProof.Rows.boot_isinstance (pa_cons (nCall c_trees_value_of (hr.mono (by decide)) pass0 (pa_cons (nv 3) pa_nil)) (pa_cons (nTy T.n_bool PyProof.Rows.boot_bool) pa_nil)))))))) (pss_one (ps_ret pe_bl)) pss_nil)
      (pss_cons (ps_set (i := 4) sc_L_law.nd rfl (.inl rfl) (nCall c_L_tree (hr.mono (by decide)) pass0 (pa_cons (nv 1) (pa_cons (nCall c_L_draw (hr.mono (by decide)) pass0 (pa_cons (nv 1) (pa_cons pe_int pa_nil))) pa_nil))))
      (pss_cons (ps_set (i := 5) sc_L_law.nd rfl (.inl rfl) pe_non)
      (pss_cons (ps_for PassesOwn.never rfl (pi_range1 (by rfl) T.n_range (pa_cons pe_int pa_nil)) (pg_name (i := 6) sc_L_law.nd rfl (.inl rfl)) (pss_one (ps_if (nCmp (oEq (K := K) hr.units) (nv 4) (pe_op (oAdd (K := K)) (pe_op (oMul (K := K)) pe_str (nv 6)) pe_str) (nomark _)) (pss_one (ps_set (i := 5) sc_L_law.nd rfl (.inl rfl) (nv 6))) pss_nil)))
      (pss_cons (ps_set (i := 7) sc_L_law.nd rfl (.inl rfl) (nCall c_L_draw (hr.mono (by decide)) pass0 (pa_cons (nv 1) (pa_cons pe_int pa_nil))))
      (pss_cons (ps_set (i := 8) sc_L_law.nd rfl (.inl rfl) (pe_op (oAdd (K := K)) (pe_op (oAdd (K := K)) pe_str (nCall c_L_tree (hr.mono (by decide)) pass0 (pa_cons (nv 1) (pa_cons (nCall c_L_draw (hr.mono (by decide)) pass0 (pa_cons (nv 1) (pa_cons pe_int pa_nil))) pa_nil)))) (nCall c_L_tree (hr.mono (by decide)) pass0 (pa_cons (nv 1) (pa_cons (nCall c_L_draw (hr.mono (by decide)) pass0 (pa_cons (nv 1) (pa_cons pe_int pa_nil))) pa_nil)))))
      (pss_cons (ps_set (i := 9) sc_L_law.nd rfl (.inl rfl) (pe_op (oAdd (K := K)) (pe_op (oAdd (K := K)) (pe_op (oAdd (K := K)) (pe_op (oMul (K := K)) pe_str (nv 7)) pe_str) (nv 8)) (nCall c_L_tree (hr.mono (by decide)) pass0 (pa_cons (nv 1) (pa_cons (nCall c_L_draw (hr.mono (by decide)) pass0 (pa_cons (nv 1) (pa_cons pe_int pa_nil))) pa_nil)))))
      (pss_one (ps_ret (pe_and (pe_cmpR (oEq (K := K) hr.units) (nCall c_trees_value_of (hr.mono (by decide)) pass0 (pa_cons (nv 4) pa_nil)) (nv 5) (nomark _)) (pe_and (pe_cmpR oIs (nCall c_trees_value_of (hr.mono (by decide)) pass0 (pa_cons (nv 9) pa_nil)) pe_non (nomark _)) (pe_one (pe_cmpR (oEq (K := K) hr.units) (nCall c_trees_value_of (hr.mono (by decide)) pass0 (pa_cons (pe_op (oAdd (K := K)) (pe_op (oMul (K := K)) pe_str (nv 7)) pe_str) pa_nil)) (nv 7) (nomark _))))))))))))))))))), ?_⟩)
  obtain ⟨a, ns, rfl, hS, hlen, k⟩ := h
  have hz : sizeLine = 16777216 := sizeLine_eq
  have two : (("10" : Str)).length = 2 := rfl
  have one : (("0" : Str)).length = 1 := rfl
  have onex : (("1" : Str)).length = 1 := rfl
  refine ⟨a, ns, rfl, hS, fun s H1 e1 st => ?_⟩
  refine ⟨s, _, rfl, by decide, by decide, st, fun v hv0 hv1 _ => ?_⟩
  refine ⟨fun σ' H' => H' = H1 ∧ ∃ n : Nat, n ≤ 100004 ∧ σ' = [some (.ref a), some (.ref s), some (.int n), none, none, none, none, none, none, none], ?_, ?_⟩
  · refine ⟨s, _, rfl, by decide, by decide, st, fun d hd0 hd1 _ => iteI (fun _ => ?_) (fun _ => ?_)⟩
    · refine ⟨s, _, rfl, by decide, by decide, st, fun g hg0 hg1 _ => ⟨rfl, (99995 + g).toNat, by omega, ?_⟩⟩
      rw [Int.toNat_of_nonneg (by omega)]
      rfl
    · refine ⟨rfl, v.toNat, by omega, ?_⟩
      rw [Int.toNat_of_nonneg hv0]
      rfl
  rintro σ' H' ⟨rfl, n, hn, rfl⟩
  -- due
  have rl := repS_length ("10" : Str) n
  refine ⟨⟨by omega, by omega, by rw [two, Int.toNat_natCast]; omega⟩, by rw [Int.toNat_natCast, rl, two, one]; omega, ?_⟩
  rw [Int.toNat_natCast, tens_str]
  have tl := tens_len n
  refine ⟨by rw [S_len]; omega, iteD (fun hg => ?_) (fun hg => ?_)⟩
  · have hg' : 200000 < (tens n).length := by
      have : (200000 : Int) < ((tens n).length : Nat) := hg
      omega
    refine ⟨n, rfl, by omega, fun _ p H2 e2 hp => ⟨by show 2 ≤ sizeLine; decide, fun q nq => ?_⟩, fun hle => by omega⟩
    refine ⟨.tuple [.str ("refused" : Str), .str ("large" : Str)], .tuple [.str ("refused" : Str), .str ("large" : Str)], .tup (.of ((Evl.Ex.new nq) _ _ hp)) (.cons (.str _) (.cons (.str _) .nil)), .tup (.of upd_same) (.cons (.str _) (.cons (.str _) .nil)), by decide +kernel, by decide +kernel, ?_⟩
    rw [show PyData.eqv (.tuple [.str ("refused" : Str), .str ("large" : Str)]) (.tuple [.str ("refused" : Str), .str ("large" : Str)]) = true by decide +kernel]
    exact k _
  · have hg' : ¬ 200000 < (tens n).length := by
      have : ¬ (200000 : Int) < ((tens n).length : Nat) := hg
      omega
    refine ⟨n, rfl, by omega, fun q => by omega, fun _ H2 e2 => ?_⟩
    refine iteN (fun h => absurd rfl h) (fun _ => ⟨tens n, rfl, by omega, ?_⟩)
    rw [valueOf_tens]
    refine iteNI (fun h => absurd rfl h) (fun _ => ⟨tens n, rfl, by omega, ?_⟩)
    rw [valueOf_tens]
    refine ⟨false, rfl, ?_⟩
    -- the tree
    have st2 := st.mono e2
    refine ⟨s, _, rfl, by decide, by decide, st2, fun g hg0 hg1 _ => ?_⟩
    obtain ⟨g, rfl⟩ := Int.eq_ofNat_of_zero_le hg0
    refine ⟨s, g, rfl, by omega, st2, fun t ht _ => ?_⟩
    have tle := t.enc_len
    refine ⟨9, rfl, by decide, by decide, for_range (lo := 0) (n := 9) (fun i σ' H3 => H3 = H2 ∧ ∃ (w : V) (c : Option V), ((w = .non ∧ ∀ j, j < i → t.enc ≠ tens j) ∨ ∃ j, j < i ∧ t.enc = tens j ∧ w = .int j) ∧ σ' = [some (.ref a), some (.ref s), some (.int n), some (.str (S (tens n))), some (.str (S t.enc)), some w, c, none, none, none]) ⟨rfl, .non, none, .inl ⟨rfl, fun j hj => absurd hj (Nat.not_lt_zero _)⟩, rfl⟩ ?_ ?_⟩
    · rintro i σ' H3 hi ⟨rfl, w, c, hw, rfl⟩
      have ri := repS_length ("10" : Str) i
      have ei : (0 : Int) + (i : Int) = (i : Nat) := by omega
      refine ⟨⟨by omega, by omega, by rw [two, ei, Int.toNat_natCast]; omega⟩, by rw [ei, Int.toNat_natCast, ri, two, one]; omega, ?_⟩
      rw [ei, Int.toNat_natCast, tens_str]
      refine iteS (fun e => ?_) (fun e => ?_)
      · exact ⟨rfl, _, _, .inr ⟨i, Nat.lt_succ_self _, S_inj e, rfl⟩, rfl⟩
      · refine ⟨rfl, w, _, ?_, rfl⟩
        have ne : t.enc ≠ tens i := fun q => e (by rw [q])
        rcases hw with ⟨h1, h2⟩ | ⟨j, h1, h2, h3⟩
        · refine .inl ⟨h1, fun j hj => ?_⟩
          by_cases q : j = i
          · rw [q]; exact ne
          · exact h2 j (by omega)
        · exact .inr ⟨j, by omega, h2, h3⟩
    · rintro σ' H3 ⟨rfl, w, c, hw, rfl⟩
      have ew : valueOf t.enc = w := by
        rcases hw with ⟨h1, h2⟩ | ⟨j, h1, h2, h3⟩
        · rw [h1]
          exact if_neg (h2 _ (by omega))
        · rw [h2, valueOf_tens, h3]
      -- the others
      refine ⟨s, _, rfl, by decide, by decide, st2, fun m hm0 hm1 _ => ?_⟩
      obtain ⟨m, rfl⟩ := Int.eq_ofNat_of_zero_le hm0
      refine ⟨s, _, rfl, by decide, by decide, st2, fun b1 hb0 hb1 _ => ?_⟩
      obtain ⟨b1, rfl⟩ := Int.eq_ofNat_of_zero_le hb0
      refine ⟨s, b1, rfl, by omega, st2, fun t1 ht1 _ => ?_⟩
      have tl1 := t1.enc_len
      refine ⟨by rw [onex, S_len]; omega, s, _, rfl, by decide, by decide, st2, fun b2 hb20 hb21 _ => ?_⟩
      obtain ⟨b2, rfl⟩ := Int.eq_ofNat_of_zero_le hb20
      refine ⟨s, b2, rfl, by omega, st2, fun t2 ht2 _ => ?_⟩
      have tl2 := t2.enc_len
      rw [show ("1" : Str) ++ S t1.enc = S (49 :: t1.enc) from S_append [49] _]
      refine ⟨by rw [S_len, S_len, List.length_cons]; omega, ?_⟩
      rw [S_append]
      have rm := repS_length ("10" : Str) m
      refine ⟨⟨by omega, by omega, by rw [two, Int.toNat_natCast]; omega⟩, by rw [Int.toNat_natCast, rm, two, onex]; omega, ?_⟩
      rw [Int.toNat_natCast]
      have e1 : repS ("10" : Str) m ++ ("1" : Str) = S ((List.replicate m [49, 48]).flatten ++ [49]) := S_append _ _
      rw [e1]
      refine ⟨by rw [S_len, S_len, List.length_append, List.length_append, flat_len, List.length_cons]; simp only [List.length_cons, List.length_nil]; omega, ?_⟩
      rw [S_append]
      refine ⟨s, _, rfl, by decide, by decide, st2, fun b3 hb30 hb31 _ => ?_⟩
      obtain ⟨b3, rfl⟩ := Int.eq_ofNat_of_zero_le hb30
      refine ⟨s, b3, rfl, by omega, st2, fun t3 ht3 _ => ?_⟩
      have tl3 := t3.enc_len
      refine ⟨by rw [S_len, S_len, List.length_append, List.length_append, List.length_append, flat_len, List.length_cons]; simp only [List.length_cons, List.length_nil]; omega, ?_⟩
      rw [S_append]
      -- the end
      refine ⟨t.enc, rfl, by omega, ?_⟩
      rw [ew]
      have hw' : w = .non ∨ ∃ i : Int, w = .int i := by
        rw [← ew]
        exact valueOf_cases t.enc
      clear ew hw
      rcases hw' with rfl | ⟨i, rfl⟩
      all_goals
        refine ⟨_, rfl, iteD (fun _ => ?_) (fun q => absurd rfl q)⟩
        refine ⟨_, rfl, by rw [List.length_append, List.length_append, List.length_append, List.length_append, flat_len, List.length_cons]; simp only [List.length_cons, List.length_nil]; omega, ?_⟩
        have no : valueOf ((List.replicate m [49, 48]).flatten ++ [49] ++ (49 :: t1.enc ++ t2.enc) ++ t3.enc) = .non := by
          refine if_neg ?_
          rw [List.append_assoc, List.append_assoc]
          exact no_tens m _ _
        rw [no]
        refine ⟨true, rfl, iteT ?_⟩
        refine ⟨⟨by omega, by omega, by rw [two, Int.toNat_natCast]; omega⟩, by rw [Int.toNat_natCast, rm, two, one]; omega, ?_⟩
        rw [Int.toNat_natCast, tens_str]
        refine ⟨_, rfl, by rw [tens_len]; omega, ?_⟩
        rw [valueOf_tens]
        show Q (.bl (decide (V.int (m : Int) = V.int (m : Int)))) _
        rw [decide_eq_true rfl]
        exact k _
end
theorem all_ok {P : Program} {w : World} {K : PySem.W.Frag} {mg : Str → Option Value} {base : Heap} {f : Addr} {fd : FuncData} (T : Txt K mg) (F : Fun K "law" "law" s_L_law f fd) : FnOk P w K mg base CX0 3 f fd ["_law_script"] (spLaw K mg) := by
  have c_trees_value_of := ok_trees_value_of (P := P) (w := w) (base := base) T 
  have c_L_draw := ok_L_draw (P := P) (w := w) (base := base) T 
  have c_L_tree := ok_L_tree (P := P) (w := w) (base := base) T c_L_draw
  have c_L_given := ok_L_given (P := P) (w := w) (base := base) T 
  have c_trees_number := ok_trees_number (P := P) (w := w) (base := base) T 
  have c_L_told := ok_L_told (P := P) (w := w) (base := base) T c_L_given c_trees_number
  have c_L_stream := ok_L_stream (P := P) (w := w) (base := base) T 
  exact ok_L_law T F c_trees_value_of c_L_tree c_L_draw c_L_told c_L_stream
theorem fin_mk {P : Program} {w : World} {K : PySem.W.Frag} {h : Heap} {mg : Str → Option Value} {fa : Addr} (X : K.In h) (G : h.Ns mainGlobals mg) (hfa : mg "law" = some (.ref fa))
    {C1 : Addr} (a1 : PySem.W.nsIn K mainGlobals "NarcissusError" = some (some (.ref C1))) (x1 : PySem.W.excIn K C1 [.type "ValueError", .type "Exception", .type "BaseException", .type "object"] "ValueError.__new__" = true) (k1 : PySem.W.keepIn K (.ref C1) = true) (s1 : PySem.W.subIn K (.ref C1) (.type "BaseException") = some true) (t1 : PySem.W.typeIn K (.ref C1) = some (.type "type")) (i1 : PySem.W.isClsIn K C1 = true)
    {C2 : Addr} (a2 : PySem.W.nsIn K mainGlobals "TooLarge" = some (some (.ref C2))) (x2 : PySem.W.excIn K C2 [.type "ValueError", .type "Exception", .type "BaseException", .type "object"] "ValueError.__new__" = true) (k2 : PySem.W.keepIn K (.ref C2) = true) (s2 : PySem.W.subIn K (.ref C2) (.type "BaseException") = some true) (t2 : PySem.W.typeIn K (.ref C2) = some (.type "type")) (i2 : PySem.W.isClsIn K C2 = true)
    (p3 : PySem.W.subIn K (.ref C1) (.ref C2) = some false)
    (p4 : PySem.W.subIn K (.ref C2) (.ref C2) = some true)
    {tk5 : Tok} (z5 : PySem.W.nsIn K mainGlobals "LEAF" = some (some (.str "0" tk5)))
    {tk6 : Tok} (z6 : PySem.W.nsIn K mainGlobals "MOST_TREE" = some (some (.int 200000 tk6)))
    (z7 : PySem.W.nsIn K mainGlobals "abs" = some none)
    (z8 : PySem.W.nsIn K mainGlobals "bool" = some none)
    (z9 : PySem.W.nsIn K mainGlobals "int" = some none)
    (z10 : PySem.W.nsIn K mainGlobals "isinstance" = some none)
    (z11 : PySem.W.nsIn K mainGlobals "len" = some none)
    (z12 : PySem.W.nsIn K mainGlobals "list" = some none)
    (z13 : PySem.W.nsIn K mainGlobals "range" = some none)
    (z14 : PySem.W.nsIn K mainGlobals "tuple" = some none)
    {f15 : Addr} {od15 an15 : Option Addr} {sl15 : Array (Option Value)} {oc15 kV15 dc15 pm15 cd15 ct15 : Value}
    (a15 : PySem.W.nsIn K mainGlobals "value_of" = some (some (.ref f15))) (l15 : K.lookup f15 = some ⟨oc15, od15, .func (PySem.W.fnOf "value_of" "value_of" (defArgs s_trees_value_of) (defBody s_trees_value_of) (defScope s_trees_value_of) .none kV15 dc15 pm15 an15 cd15 ct15), sl15⟩) (c15 : PySem.W.codeIn K cd15 "value_of" = true) (k15 : PySem.W.keepIn K (.ref f15) = true)
    {f16 : Addr} {od16 an16 : Option Addr} {sl16 : Array (Option Value)} {oc16 kV16 dc16 pm16 cd16 ct16 : Value}
    (a16 : PySem.W.nsIn K mainGlobals "_law_draw" = some (some (.ref f16))) (l16 : K.lookup f16 = some ⟨oc16, od16, .func (PySem.W.fnOf "_law_draw" "_law_draw" (defArgs s_L_draw) (defBody s_L_draw) (defScope s_L_draw) .none kV16 dc16 pm16 an16 cd16 ct16), sl16⟩) (c16 : PySem.W.codeIn K cd16 "_law_draw" = true) (k16 : PySem.W.keepIn K (.ref f16) = true)
    {f17 : Addr} {od17 an17 : Option Addr} {sl17 : Array (Option Value)} {oc17 kV17 dc17 pm17 cd17 ct17 : Value}
    (a17 : PySem.W.nsIn K mainGlobals "_law_tree" = some (some (.ref f17))) (l17 : K.lookup f17 = some ⟨oc17, od17, .func (PySem.W.fnOf "_law_tree" "_law_tree" (defArgs s_L_tree) (defBody s_L_tree) (defScope s_L_tree) .none kV17 dc17 pm17 an17 cd17 ct17), sl17⟩) (c17 : PySem.W.codeIn K cd17 "_law_tree" = true) (k17 : PySem.W.keepIn K (.ref f17) = true)
    {f18 : Addr} {od18 an18 : Option Addr} {sl18 : Array (Option Value)} {oc18 kV18 dc18 pm18 cd18 ct18 : Value}
    (a18 : PySem.W.nsIn K mainGlobals "_law_given" = some (some (.ref f18))) (l18 : K.lookup f18 = some ⟨oc18, od18, .func (PySem.W.fnOf "_law_given" "_law_given" (defArgs s_L_given) (defBody s_L_given) (defScope s_L_given) .none kV18 dc18 pm18 an18 cd18 ct18), sl18⟩) (c18 : PySem.W.codeIn K cd18 "_law_given" = true) (k18 : PySem.W.keepIn K (.ref f18) = true)
    {f19 : Addr} {od19 an19 : Option Addr} {sl19 : Array (Option Value)} {oc19 kV19 dc19 pm19 cd19 ct19 : Value}
    (a19 : PySem.W.nsIn K mainGlobals "number" = some (some (.ref f19))) (l19 : K.lookup f19 = some ⟨oc19, od19, .func (PySem.W.fnOf "number" "number" (defArgs s_trees_number) (defBody s_trees_number) (defScope s_trees_number) .none kV19 dc19 pm19 an19 cd19 ct19), sl19⟩) (c19 : PySem.W.codeIn K cd19 "number" = true) (k19 : PySem.W.keepIn K (.ref f19) = true)
    {f20 : Addr} {od20 an20 : Option Addr} {sl20 : Array (Option Value)} {oc20 kV20 dc20 pm20 cd20 ct20 : Value}
    (a20 : PySem.W.nsIn K mainGlobals "_law_told" = some (some (.ref f20))) (l20 : K.lookup f20 = some ⟨oc20, od20, .func (PySem.W.fnOf "_law_told" "_law_told" (defArgs s_L_told) (defBody s_L_told) (defScope s_L_told) .none kV20 dc20 pm20 an20 cd20 ct20), sl20⟩) (c20 : PySem.W.codeIn K cd20 "_law_told" = true) (k20 : PySem.W.keepIn K (.ref f20) = true)
    {f21 : Addr} {od21 an21 : Option Addr} {sl21 : Array (Option Value)} {oc21 kV21 dc21 pm21 cd21 ct21 : Value}
    (a21 : PySem.W.nsIn K mainGlobals "_law_stream" = some (some (.ref f21))) (l21 : K.lookup f21 = some ⟨oc21, od21, .func (PySem.W.fnOf "_law_stream" "_law_stream" (defArgs s_L_stream) (defBody s_L_stream) (defScope s_L_stream) .none kV21 dc21 pm21 an21 cd21 ct21), sl21⟩) (c21 : PySem.W.codeIn K cd21 "_law_stream" = true) (k21 : PySem.W.keepIn K (.ref f21) = true)
    {f0 : Addr} {od0 an0 : Option Addr} {sl0 : Array (Option Value)} {oc0 kV0 dc0 pm0 cd0 ct0 : Value}
    (a0 : PySem.W.nsIn K mainGlobals "law" = some (some (.ref f0))) (l0 : K.lookup f0 = some ⟨oc0, od0, .func (PySem.W.fnOf "law" "law" (defArgs s_L_law) (defBody s_L_law) (defScope s_L_law) .none kV0 dc0 pm0 an0 cd0 ct0), sl0⟩) (c0 : PySem.W.codeIn K cd0 "law" = true) (k0 : PySem.W.keepIn K (.ref f0) = true)
    : ∃ fd : FuncData, (∀ (s : Shared) (u : Value), BindsTo s fd ⟨[u], []⟩ [("_law_script", u)]) ∧ ∀ base : Heap, K.In base → base.Ns mainGlobals mg → FnOk P w K mg base CX0 3 fa fd ["_law_script"] (spLaw K mg) := by
  have e := hfa.symm.trans (PySem.W.mg_of X G a0)
  cases e
  exact ⟨PySem.W.fnOf "law" "law" (defArgs s_L_law) (defBody s_L_law) (defScope s_L_law) .none kV0 dc0 pm0 an0 cd0 ct0, fun s u => .of_eq rfl, fun base _ _ => all_ok (txt_mk X G a1 x1 k1 s1 t1 i1 a2 x2 k2 s2 t2 i2 p3 p4 z5 z6 z7 z8 z9 z10 z11 z12 z13 z14 a15 l15 c15 k15 a16 l16 c16 k16 a17 l17 c17 k17 a18 l18 c18 k18 a19 l19 c19 k19 a20 l20 c20 k20 a21 l21 c21 k21) (L2.fun_mk l0 c0 k0)⟩
end NV
open PySem PySem.W PyProof.Rows in
set_option maxRecDepth 100000 in
set_option maxHeartbeats 0 in
theorem PySem.Challenge.cw_narcissus_k03_numbers_holds : PySem.Challenge.rw_narcissus_k03_numbers.Holds := by
  w_on; o_law; k_head; (case hw => w_witness2)
  k_fill
  refine NV.walk_law (l := PySem.Challenge.rw_narcissus_k03_numbers) (k := 3) rfl rfl (by decide) (fun w h Y => PySem.W.kIn_of Y) ?F
  case F =>
    intro w mg fa h KX G hmg
    refine' NV.fin_mk KX G hmg ?a1 ?x1 ?k1 ?s1 ?t1 ?i1 ?a2 ?x2 ?k2 ?s2 ?t2 ?i2 ?p3 ?p4 ?z5 ?z6 ?z7 ?z8 ?z9 ?z10 ?z11 ?z12 ?z13 ?z14 ?a15 ?l15 ?c15 ?k15 ?a16 ?l16 ?c16 ?k16 ?a17 ?l17 ?c17 ?k17 ?a18 ?l18 ?c18 ?k18 ?a19 ?l19 ?c19 ?k19 ?a20 ?l20 ?c20 ?k20 ?a21 ?l21 ?c21 ?k21 ?a0 ?l0 ?c0 ?k0
    (case a1 => k_is)
    (case x1 => k_exc)
    (case k1 => k_is)
    (case s1 => k_is)
    (case t1 => k_is)
    (case i1 => k_is)
    (case a2 => k_is)
    (case x2 => k_exc)
    (case k2 => k_is)
    (case s2 => k_is)
    (case t2 => k_is)
    (case i2 => k_is)
    (case p3 => first | k_is | rfl)
    (case p4 => first | k_is | rfl)
    (case z5 => k_is)
    (case z6 => k_is)
    (case z7 => k_is)
    (case z8 => k_is)
    (case z9 => k_is)
    (case z10 => k_is)
    (case z11 => k_is)
    (case z12 => k_is)
    (case z13 => k_is)
    (case z14 => k_is)
    (case a15 => k_is)
    (case l15 => k_is)
    (case c15 => k_is)
    (case k15 => k_is)
    (case a16 => k_is)
    (case l16 => k_is)
    (case c16 => k_is)
    (case k16 => k_is)
    (case a17 => k_is)
    (case l17 => k_is)
    (case c17 => k_is)
    (case k17 => k_is)
    (case a18 => k_is)
    (case l18 => k_is)
    (case c18 => k_is)
    (case k18 => k_is)
    (case a19 => k_is)
    (case l19 => k_is)
    (case c19 => k_is)
    (case k19 => k_is)
    (case a20 => k_is)
    (case l20 => k_is)
    (case c20 => k_is)
    (case k20 => k_is)
    (case a21 => k_is)
    (case l21 => k_is)
    (case c21 => k_is)
    (case k21 => k_is)
    (case a0 => k_is)
    (case l0 => k_is)
    (case c0 => k_is)
    (case k0 => k_is)
#print axioms PySem.Challenge.cw_narcissus_k03_numbers_holds

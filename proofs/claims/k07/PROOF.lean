import PyProof.Rows.All
import Wide.All
import OpenK.AllK
import Wide.FinOn
import HandS.ForMost
import HandS.ForExc
import HandS.TupAny
import HandS.TupMul
import HandS.IsInst
import HandS.Style
import HandS.Rev
import HandS.RevRange
import HandS.Evl
import HandS.ExcIs
import PyProof.StrOps2
import PySem.Challenge.RW_narcissus_k07_width
set_option Elab.async false
set_option linter.all false
set_option maxRecDepth 100000
set_option maxHeartbeats 4000000
set_option Elab.async false
set_option linter.all false
set_option maxRecDepth 100000
set_option maxHeartbeats 4000000
/-! # universal operators: readings that follow the values -/
namespace NV
open PySem PySem.Spec PyProof.Rows L2
section
variable {X : Cx}
theorem PEwk {e : Expr} {t t' : TE} (h : PE X e t) (w : ∀ σ H Q, t' σ H Q → t σ H Q) : PE X e t' :=
  ⟨fun p s σ H Q I q => h.run p s σ H Q I (w _ _ _ q)⟩
theorem PTwk {e : Expr} {t t' : TT} (h : PT X e t) (w : ∀ σ H Q, t' σ H Q → t σ H Q) : PT X e t' :=
  ⟨fun p s σ H Q I q => h.run p s σ H Q I (w _ _ _ q)⟩
theorem OpWk {f : Value → Value → Sem Value} {r r' : R2} (h : OpR X f r) (w : ∀ x y H Q, r' x y H Q → r x y H Q) : OpR X f r' :=
  fun pins s σ H x y v u Q I rx ry q => h pins s σ H x y v u Q I rx ry (w _ _ _ _ q)
theorem CallWk {f : Value} {r r' : List V → Hp → VK → Prop} (h : CallR X f r) (w : ∀ xs H Q, r' xs H Q → r xs H Q) : CallR X f r' :=
  fun pins s σ H xs us Q I r q => h pins s σ H xs us Q I r (w _ _ _ q)
/-! ### a name -/
def mV (i : Nat) : TE := fun σ H Q => match σ[i]? with
  | some (some v) => Q v H
  | _ => False
theorem nv (i : Nat) {x : Str} {pos : Pos} (hN : X.N[i]? = some x := by rfl) (hv : Vis X.env.scope x := by first | exact Or.inl rfl | exact Or.inr (Or.inl rfl) | exact Or.inr (Or.inr rfl)) (hd : (x == ("__debug__" : Str)) = false := by decide)
    (hcd : (x == ("__classdict__" : Str)) = false := by decide) : PE X (.Name x pos) (mV i) := PEwk (pe_var hN hv hd hcd) fun σ H Q h => by
  unfold mV at h
  split at h
  · exact ⟨_, by assumption, h⟩
  · exact h.elim
/-! ### a list or a tuple that is read -/
def SqA (K : PySem.W.Frag) (H : Hp) (a : Addr) (xs : List V) : Prop := SqL K H a xs ∨ SqT K H a xs
theorem SqA.l {K : PySem.W.Frag} {H : Hp} {a : Addr} {xs : List V} (h : H a = some (.lst xs)) : SqA K H a xs := .inl (.of h)
theorem SqA.t {K : PySem.W.Frag} {H : Hp} {a : Addr} {xs : List V} (h : H a = some (.tup xs)) : SqA K H a xs := .inr (.of h)
/-! ### + - * // % -/
def rAddU (K : PySem.W.Frag) : R2 := fun x y H Q => match x, y with
  | .int i, .int j => Q (.int (i + j)) H
  | .int i, .bl k => Q (.int (i + b2i k)) H
  | .str a, .str b => a.length + b.length ≤ sizeLine ∧ Q (.str (a ++ b)) H
  | .ref a, .ref b => rCat (.ref a) (.ref b) H Q ∨ rCatA K (.ref a) (.ref b) H Q
  | _, _ => False
theorem oAdd {K : PySem.W.Frag} (hK : X.K = K := by rfl) : OpR X (binaryOp .Add) (rAddU K) := fun pins s σ H x y v u Q I rx ry h => by
  subst hK
  cases x <;> cases y <;> first
    | exact op_add pins s σ H _ _ v u Q I rx ry ⟨_, _, rfl, rfl, h⟩
    | exact op_add_ib pins s σ H _ _ v u Q I rx ry ⟨_, _, rfl, rfl, h⟩
    | exact op_add_str pins s σ H _ _ v u Q I rx ry ⟨_, _, rfl, rfl, h.1, h.2⟩
    | exact h.elim (fun h => op_cat pins s σ H _ _ v u Q I rx ry h) (fun h => op_catA pins s σ H _ _ v u Q I rx ry h)
    | exact False.elim h
def rSubU : R2 := fun x y H Q => match x, y with
  | .int i, .int j => Q (.int (i - j)) H
  | _, _ => False
theorem oSub : OpR X (binaryOp .Sub) rSubU := fun pins s σ H x y v u Q I rx ry h => by
  cases x <;> cases y <;> first
    | exact op_sub pins s σ H _ _ v u Q I rx ry ⟨_, _, rfl, rfl, h⟩
    | exact False.elim h
/-- the text z, n times -/
def repS (z : Str) (n : Nat) : Str := ⟨(List.replicate n z.cps.toList).flatten.toArray⟩
theorem foldl_repS (z : List Nat) : ∀ (n : Nat) (acc : List Nat), (List.replicate n z.toArray).foldl (fun x y => x ++ y) acc.toArray = (acc ++ (List.replicate n z).flatten).toArray := by
  intro n
  induction n with
  | zero => intro acc; simp
  | succ n ih =>
    intro acc
    rw [List.replicate_succ, List.foldl_cons, List.append_toArray, ih, List.replicate_succ, List.flatten_cons, List.append_assoc]
def rMulU (K : PySem.W.Frag) : R2 := fun x y H Q => match x, y with
  | .int i, .int j => CMul i j ∧ Q (.int (i * j)) H
  | .str a, .int n => (-(2 ^ 63) < n ∧ n < 2 ^ 62 ∧ a.length * n.toNat ≤ 10000000) ∧ Q (.str (repS a n.toNat)) H
  | .ref a, .int n => rRep (.ref a) (.int n) H Q ∨ rRepT K (.ref a) (.int n) H Q
  | _, _ => False
theorem repS_one (z : Str) : repS z 1 = z := by
  obtain ⟨⟨l⟩⟩ := z
  unfold repS
  rw [List.replicate_one, List.flatten_singleton]
theorem repS_nil (n : Nat) (z : Str) (h : z.length = 0) : repS z n = z := by
  obtain ⟨⟨l⟩⟩ := z
  have e : l = [] := List.length_eq_zero_iff.mp h
  subst e
  unfold repS
  rw [List.flatten_replicate_nil]
theorem repS_length (z : Str) (n : Nat) : (repS z n).length = z.length * n := by
  obtain ⟨⟨l⟩⟩ := z
  show (List.replicate n l).flatten.toArray.size = l.length * n
  rw [List.size_toArray, List.length_flatten, List.map_replicate, List.sum_replicate_nat, Nat.mul_comm]
theorem oMul {K : PySem.W.Frag} (hK : X.K = K := by rfl) : OpR X (binaryOp .Mult) (rMulU K) := fun pins s σ H x y v u Q I rx ry h => by
  subst hK
  cases x <;> cases y <;> first
    | exact op_mul pins s σ H _ _ v u Q I rx ry ⟨_, _, rfl, rfl, h.1, h.2⟩
    | exact h.elim (fun h => op_rep pins s σ H _ _ v u Q I rx ry h) (fun h => op_repT pins s σ H _ _ v u Q I rx ry h)
    | exact False.elim h
    | skip
  rename_i a n
  obtain ⟨⟨h1, h2, h3⟩, q⟩ := h
  obtain ⟨t, rfl⟩ := rx
  obtain ⟨t', rfl⟩ := ry
  have hz : sizeLine = 16777216 := sizeLine_eq
  by_cases hn : n < 1
  · have e : n.toNat = 0 := by omega
    rw [e] at q
    exact PySem.P.mul_str_none hn (by omega) ⟨.str (repS a 0), H, I.tok _, ⟨_, rfl⟩, q⟩
  · refine PySem.P.mul_str (by rw [decide_eq_false (by omega), decide_eq_false (by omega)]; rfl) (fun _ hc => ?_) (fun _ _ => ?_) ?_
    · have hl : 0 < a.length := by
        rw [Bool.or_eq_false_iff] at hc
        have := hc.2
        rw [beq_eq_false_iff_ne] at this
        omega
      intro hgt
      have hn0 : (0 : Int) < n := by omega
      have h5 : (a.length : Int) * n ≤ 10000000 := by
        have e : ((a.length * n.toNat : Nat) : Int) = (a.length : Int) * n := by
          rw [Int.natCast_mul, Int.toNat_of_nonneg (by omega)]
        rw [← e]
        exact Int.ofNat_le.mpr h3
      have h6 : (2 ^ 63 - 1) / n * n ≤ 2 ^ 63 - 1 := Int.ediv_mul_le _ (by omega)
      have h7 : (2 ^ 63 - 1) / n < (a.length : Int) := hgt
      have h9 : n ≤ 10000000 := by
        have : (1 : Int) * n ≤ (a.length : Int) * n := Int.mul_le_mul_of_nonneg_right (by omega) (by omega)
        omega
      have h10 : (a.length : Int) ≤ 10000000 := by
        have : (a.length : Int) * 1 ≤ (a.length : Int) * n := Int.mul_le_mul_of_nonneg_left (by omega) (by omega)
        omega
      have h11 : (2 ^ 63 - 1) / n ≥ 10000000 := by
        refine Int.le_ediv_of_mul_le hn0 ?_
        have : 10000000 * n ≤ 10000000 * 10000000 := Int.mul_le_mul_of_nonneg_left h9 (by omega)
        omega
      omega
    · show decide (a.length * n.toNat > sizeLine) = false
      exact decide_eq_false (by omega)
    · rw [if_neg hn]
      by_cases hc : (n == 1 || a.length == 0) = true
      · rw [if_pos hc]
        have e : repS a n.toNat = a := by
          rw [Bool.or_eq_true] at hc
          rcases hc with hc | hc
          · have : n = 1 := by simpa using hc
            rw [this]
            exact repS_one a
          · exact repS_nil _ _ (by simpa using hc)
        rw [e] at q
        exact ⟨.str a, H, I, ⟨_, rfl⟩, q⟩
      · rw [if_neg hc]
        have e : (⟨(List.replicate n.toNat a.cps).foldl (· ++ ·) #[]⟩ : Str) = repS a n.toNat := by
          have := foldl_repS a.cps.toList n.toNat []
          rw [List.nil_append] at this
          unfold repS
          rw [← this]
        rw [e]
        exact ⟨by rw [repS_length]; omega, .str (repS a n.toNat), H, I.tok _, ⟨_, rfl⟩, q⟩
def rDivU : R2 := fun x y H Q => match x, y with
  | .int i, .int j => CDiv i j ∧ Q (.int (i / j)) H
  | _, _ => False
theorem oDiv : OpR X (binaryOp .FloorDiv) rDivU := fun pins s σ H x y v u Q I rx ry h => by
  cases x <;> cases y <;> first
    | exact op_fdiv pins s σ H _ _ v u Q I rx ry ⟨_, _, rfl, rfl, h.1, h.2⟩
    | exact False.elim h
def rModU : R2 := fun x y H Q => match x, y with
  | .int i, .int j => 0 < j ∧ Q (.int (i % j)) H
  | _, _ => False
theorem oMod : OpR X (binaryOp .Mod) rModU := fun pins s σ H x y v u Q I rx ry h => by
  cases x <;> cases y <;> first
    | exact op_mod pins s σ H _ _ v u Q I rx ry ⟨_, _, rfl, rfl, h.1, h.2⟩
    | exact False.elim h
/-! ### comparisons -/
def rEqU (K : PySem.W.Frag) : R2 := fun x y H Q => match scal x y with
  | true => Q (.bl (decide (x = y))) H
  | false => rEqD K x y H Q
theorem oEq {K : PySem.W.Frag} (hu : X.A.units + 64 < cLine) (hK : X.K = K := by rfl) : OpR X (compareOp .Eq) (rEqU K) := fun pins s σ H x y v u Q I rx ry h => by
  subst hK
  unfold rEqU at h
  cases e : scal x y with
  | true => rw [e] at h; exact op_eq pins s σ H _ _ v u Q I rx ry ⟨e, h⟩
  | false => rw [e] at h; exact op_eqD hu pins s σ H _ _ v u Q I rx ry h
def rNeU (K : PySem.W.Frag) : R2 := fun x y H Q => match scal x y with
  | true => Q (.bl (!decide (x = y))) H
  | false => rNeD K x y H Q
theorem oNe {K : PySem.W.Frag} (hu : X.A.units + 64 < cLine) (hK : X.K = K := by rfl) : OpR X (compareOp .NotEq) (rNeU K) := fun pins s σ H x y v u Q I rx ry h => by
  subst hK
  unfold rNeU at h
  cases e : scal x y with
  | true => rw [e] at h; exact op_ne pins s σ H _ _ v u Q I rx ry ⟨e, h⟩
  | false => rw [e] at h; exact op_neD hu pins s σ H _ _ v u Q I rx ry h
def rCI (p : Int → Int → Bool) : R2 := fun x y H Q => match x, y with
  | .int i, .int j => Q (.bl (p i j)) H
  | _, _ => False
theorem oLt : OpR X (compareOp .Lt) (rCI fun i j => decide (i < j)) := fun pins s σ H x y v u Q I rx ry h => by
  cases x <;> cases y <;> first
    | exact op_lt pins s σ H _ _ v u Q I rx ry ⟨_, _, rfl, rfl, h⟩
    | exact False.elim h
theorem oLe : OpR X (compareOp .LtE) (rCI fun i j => decide (i ≤ j)) := fun pins s σ H x y v u Q I rx ry h => by
  cases x <;> cases y <;> first
    | exact op_le pins s σ H _ _ v u Q I rx ry ⟨_, _, rfl, rfl, h⟩
    | exact False.elim h
theorem oGt : OpR X (compareOp .Gt) (rCI fun i j => decide (j < i)) := fun pins s σ H x y v u Q I rx ry h => by
  cases x <;> cases y <;> first
    | exact op_gt pins s σ H _ _ v u Q I rx ry ⟨_, _, rfl, rfl, h⟩
    | exact False.elim h
theorem oGe : OpR X (compareOp .GtE) (rCI fun i j => decide (j ≤ i)) := fun pins s σ H x y v u Q I rx ry h => by
  cases x <;> cases y <;> first
    | exact op_ge pins s σ H _ _ v u Q I rx ry ⟨_, _, rfl, rfl, h⟩
    | exact False.elim h
def rIsU : R2 := fun x y H Q => match x, y with
  | .bl a, .bl b => Q (.bl (decide (a = b))) H
  | _, .non => Q (.bl (decide (x = .non))) H
  | _, _ => False
theorem oIs : OpR X (compareOp .Is) rIsU := fun pins s σ H x y v u Q I rx ry h => by
  cases y with
  | non => exact op_isN pins s σ H _ _ v u Q I rx ry ⟨rfl, by cases x <;> exact h⟩
  | bl b =>
    cases x with
    | bl a => exact op_isBl pins s σ H _ _ v u Q I rx ry ⟨a, b, rfl, rfl, h⟩
    | _ => exact False.elim h
  | _ => cases x <;> exact False.elim h
def rIsNotU : R2 := fun x y H Q => match x, y with
  | .bl a, .bl b => Q (.bl (!decide (a = b))) H
  | _, .non => Q (.bl (!decide (x = .non))) H
  | _, _ => False
theorem oIsNot : OpR X (compareOp .IsNot) rIsNotU := fun pins s σ H x y v u Q I rx ry h => by
  cases y with
  | non => exact op_notN pins s σ H _ _ v u Q I rx ry ⟨rfl, by cases x <;> exact h⟩
  | bl b =>
    cases x with
    | bl a => exact op_notBl pins s σ H _ _ v u Q I rx ry ⟨a, b, rfl, rfl, h⟩
    | _ => exact False.elim h
  | _ => cases x <;> exact False.elim h
def rInU (K : PySem.W.Frag) : R2 := fun x y H Q => match y with
  | .str z => ∃ c, x = .str ⟨#[c]⟩ ∧ Q (.bl (decide (c ∈ z.cps.toList))) H
  | .ref p => ∃ xs, SqA K H p xs ∧ flatV x = true ∧ xs.all flatV = true ∧ Q (.bl (inV x xs)) H
  | _ => False
theorem oIn {K : PySem.W.Frag} (hK : X.K = K := by rfl) : OpR X (compareOp .In) (rInU K) := fun pins s σ H x y v u Q I rx ry h => by
  subst hK
  cases y with
  | str z =>
    obtain ⟨c, e, q⟩ := h
    exact op_in_sign pins s σ H _ _ v u Q I rx ry ⟨c, z, e, rfl, q⟩
  | ref p =>
    obtain ⟨xs, hs, h1, h2, q⟩ := h
    exact op_in_seq pins s σ H _ _ v u Q I rx ry ⟨p, xs, rfl, hs, h1, h2, q⟩
  | _ => exact False.elim h
def rNotInU (K : PySem.W.Frag) : R2 := fun x y H Q => match y with
  | .str z => ∃ c, x = .str ⟨#[c]⟩ ∧ Q (.bl (!decide (c ∈ z.cps.toList))) H
  | .ref p => ∃ xs, SqA K H p xs ∧ flatV x = true ∧ xs.all flatV = true ∧ Q (.bl (!inV x xs)) H
  | _ => False
theorem oNotIn {K : PySem.W.Frag} (hK : X.K = K := by rfl) : OpR X (compareOp .NotIn) (rNotInU K) := fun pins s σ H x y v u Q I rx ry h => by
  subst hK
  cases y with
  | str z =>
    obtain ⟨c, e, q⟩ := h
    exact op_notIn_sign pins s σ H _ _ v u Q I rx ry ⟨c, z, e, rfl, q⟩
  | ref p =>
    obtain ⟨xs, hs, h1, h2, q⟩ := h
    exact op_notIn_seq pins s σ H _ _ v u Q I rx ry ⟨p, xs, rfl, hs, h1, h2, q⟩
  | _ => exact False.elim h
/-- in a tuple of tuples -/
def rInDT (K : PySem.W.Frag) : R2 := fun x y H Q => ∃ d ds, Dp K H x d ∧ Dp K H y (.tuple ds) ∧ SeqAt.shaped d = true ∧ SeqAt.shaped (.tuple ds) = true ∧ Q (.bl (ds.any fun z => PyData.eqv z d)) H
theorem oInD {K : PySem.W.Frag} {k : Nat} (hr : Room k X.A) (hK : X.K = K := by rfl) : OpR X (compareOp .In) (rInDT K) := by
  subst hK
  intro pins s σ H x y v u Q I rx ry h
  obtain ⟨d, ds, hd, he, sd, se, q⟩ := h
  obtain ⟨as, r1⟩ := Dp.reads I d x v hd rx
  obtain ⟨bs, r2⟩ := Dp.reads I (.tuple ds) y u he ry
  exact SeqAt.in_tuple_reads r2 r1 (SeqAt.canLay_of_shaped se) (SeqAt.canLay_of_shaped sd) (room_in_shaped sd (by have := hr.un; omega)) ⟨.bl _, H, I, rfl, q⟩
/-! ### x[i], x[a:b] -/
def rIxU (K : PySem.W.Frag) : R2 := fun x y H Q => match x, y with
  | .str z, .int i => z.length ≤ sizeLine ∧ ∃ c, atI z.cps.toList i = some c ∧ Q (.str ⟨#[c]⟩) H
  | .ref p, .int i => ∃ xs v, SqA K H p xs ∧ atI xs i = some v ∧ Q v H
  | _, _ => False
theorem ixU {K : PySem.W.Frag} (hK : X.K = K := by rfl) : IxR X (rIxU K) := fun a b pins s σ H x y v u Q I rx ry h hs => by
  subst hK
  refine ix_seq a b pins s σ H x y v u Q I rx ry ?_ hs
  cases x <;> cases y <;> first
    | (exact False.elim h)
    | (obtain ⟨hz, c, e, q⟩ := h; exact Or.inr (Or.inr ⟨_, _, c, rfl, rfl, hz, e, q⟩))
    | (obtain ⟨xs, v, hq, e, q⟩ := h
       rcases hq with hq | hq
       · exact Or.inl ⟨_, xs, _, v, rfl, rfl, hq, e, q⟩
       · exact Or.inr (Or.inl ⟨_, xs, _, v, rfl, rfl, hq, e, q⟩))
def rSlU (K : PySem.W.Frag) : V → Option Int → Option Int → Hp → VK → Prop := fun x lo hi H Q => match x with
  | .str z => z.length ≤ sizeLine ∧ Q (.str (cutS z lo hi)) H
  | .ref a => rSlL K (.ref a) lo hi H Q ∨ rSlA K (.ref a) lo hi H Q
  | _ => False
theorem slU {K : PySem.W.Frag} (hK : X.K = K := by rfl) : SlR X (rSlU K) := by
  subst hK
  intro pins s σ H x v vl vu lo hi sl Q I rx hs pl pu h
  cases x with
  | str z => exact sl_str pins s σ H _ v vl vu lo hi sl Q I rx hs pl pu ⟨z, rfl, h.1, h.2⟩
  | ref a =>
    rcases h with h | h
    · exact sl_list pins s σ H _ v vl vu lo hi sl Q I rx hs pl pu h
    · exact sl_tupA pins s σ H _ v vl vu lo hi sl Q I rx hs pl pu h
  | _ => exact False.elim h
/-! ### built-in calls -/
def rLenU (K : PySem.W.Frag) : List V → Hp → VK → Prop := fun vs H Q => match vs with
  | [.str z] => z.length ≤ sizeLine ∧ Q (.int z.length) H
  | [.ref p] => ∃ xs, SqA K H p xs ∧ Q (.int xs.length) H
  | _ => False
theorem cLen {K : PySem.W.Frag} (hK : X.K = K := by rfl) : CallR X (.builtin "len") (rLenU K) := by
  subst hK
  refine CallWk call_len ?_
  intro vs H Q h
  unfold rLenU at h
  split at h
  · exact ⟨_, _, rfl, ⟨h.1, rfl⟩, h.2⟩
  · obtain ⟨xs, hq, q⟩ := h
    rcases hq with hq | hq
    · exact ⟨_, _, rfl, .inl ⟨xs, hq, rfl⟩, q⟩
    · exact ⟨_, _, rfl, .inr ⟨xs, hq, rfl⟩, q⟩
  · exact h.elim
def rIntU : List V → Hp → VK → Prop := fun vs H Q => match vs with
  | [.int i] => Q (.int i) H
  | [.bl k] => Q (.int (if k then 1 else 0)) H
  | _ => False
theorem cInt : CallR X (.type "int") rIntU := CallWk call_int1 fun vs H Q h => by
  unfold rIntU at h
  split at h
  · exact .inl ⟨_, rfl, h⟩
  · exact .inr ⟨_, rfl, h⟩
  · exact h.elim
def rAbsU : List V → Hp → VK → Prop := fun vs H Q => match vs with
  | [.int i] => Q (.int (if i < 0 then -i else i)) H
  | _ => False
theorem cAbs : CallR X (.builtin "abs") rAbsU := CallWk call_abs fun vs H Q h => by
  unfold rAbsU at h
  split at h
  · exact ⟨_, rfl, h⟩
  · exact h.elim
def rListU (K : PySem.W.Frag) : List V → Hp → VK → Prop := fun vs H Q => match vs with
  | [.ref p] => ∃ ys, SqA K H p ys ∧ ∀ l, H l = none → Q (.ref l) (upd H l (.lst ys))
  | _ => False
theorem cList {K : PySem.W.Frag} (hK : X.K = K := by rfl) : CallR X (.type "list") (rListU K) := by
  subst hK
  refine CallWk call_list_of ?_
  intro vs H Q h
  unfold rListU at h
  split at h
  · obtain ⟨ys, hq, q⟩ := h
    exact ⟨_, ys, rfl, hq, q⟩
  · exact h.elim
def rTupU (K : PySem.W.Frag) : List V → Hp → VK → Prop := fun vs H Q => match vs with
  | [.ref p] => ∃ ys, SqL K H p ys ∧ ∀ l, H l = none → Q (.ref l) (upd H l (.tup ys))
  | _ => False
theorem cTup {K : PySem.W.Frag} (hK : X.K = K := by rfl) : CallR X (.type "tuple") (rTupU K) := by
  subst hK
  refine CallWk call_tuple_of ?_
  intro vs H Q h
  unfold rTupU at h
  split at h
  · obtain ⟨ys, hq, q⟩ := h
    exact ⟨_, ys, rfl, .inl ⟨hq, q⟩⟩
  · exact h.elim
/-- isinstance(x, T), T a built-in class -/
def rIsiU (K : PySem.W.Frag) : List V → Hp → VK → Prop := fun vs H Q => match vs with
  | [.non, .ty n] => ∃ b, kitB "NoneType" n = some b ∧ Q (.bl b) H
  | [.bl _, .ty n] => ∃ b, kitB "bool" n = some b ∧ Q (.bl b) H
  | [.int _, .ty n] => ∃ b, kitB "int" n = some b ∧ Q (.bl b) H
  | [.str _, .ty n] => ∃ b, kitB "str" n = some b ∧ Q (.bl b) H
  | [.ref p, .ty n] => ∃ T b, TyX K H (.ref p) (.type T) ∧ kitB T n = some b ∧ Q (.bl b) H
  | _ => False
theorem cIsi {K : PySem.W.Frag} (hK : X.K = K := by rfl) : CallR X (.builtin "isinstance") (rIsiU K) := by
  subst hK
  refine CallWk call_isi ?_
  intro vs H Q h
  unfold rIsiU at h
  split at h
  · obtain ⟨b, e, q⟩ := h; exact ⟨_, _, _, _, b, rfl, .ty _, .base .non, kit_ty e, q⟩
  · obtain ⟨b, e, q⟩ := h; exact ⟨_, _, _, _, b, rfl, .ty _, .base (.bl _), kit_ty e, q⟩
  · obtain ⟨b, e, q⟩ := h; exact ⟨_, _, _, _, b, rfl, .ty _, .base (.int _), kit_ty e, q⟩
  · obtain ⟨b, e, q⟩ := h; exact ⟨_, _, _, _, b, rfl, .ty _, .base (.str _), kit_ty e, q⟩
  · obtain ⟨T, b, ty, e, q⟩ := h; exact ⟨_, _, _, _, b, rfl, .ty _, ty, kit_ty e, q⟩
  · exact h.elim
/-! ### tests -/
/-- a bool as a test -/
def mT (t : TE) : TT := fun σ H Q => t σ H fun x H' => match x with
  | .bl b => Q b H'
  | _ => False
theorem isB (Q : Bool → Hp → Prop) : (fun (x : V) (H' : Hp) => match x with | .bl b => Q b H' | _ => False) = (fun x H' => ∃ k, x = .bl k ∧ Q k H') := by
  funext x H'
  cases x with
  | bl b => exact propext ⟨fun h => ⟨b, rfl, h⟩, fun ⟨k, e, h⟩ => by cases e; exact h⟩
  | _ => exact propext ⟨fun h => h.elim, fun ⟨k, e, h⟩ => by cases e⟩
theorem nCmp {a b : Expr} {op : CmpOp} {r : R2} {ta tb : TE} {pos : Pos} (ho : OpR X (compareOp op) r) (ha : PE X a ta) (hb : PE X b tb) (hm : behindInMarks op b = false) : PT X (.Compare a [op] [b] pos) (mT (tOp r ta tb)) :=
  PTwk (pt_cmpR ho ha hb hm) fun σ H Q h => by
    unfold mT at h
    rw [isB] at h
    exact h
theorem nVal {e : Expr} {te : TE} (h : PE X e te) (he : ∀ whole, isTrue e X.env whole = (do let v ← whole; standAt e.pos; holding [v] (truthy v)) := by intro _; rfl) : PT X e (mT te) :=
  PTwk (pt_val h he) fun σ H Q h => by
    unfold mT at h
    rw [isB] at h
    exact h
/-! ### what a for walks -/
def iAnyU (K : PySem.W.Frag) (te : TE) : TI := fun σ H R => te σ H fun v H1 => match v with
  | .str z => R (Its z) H1
  | .ref a => ((∃ xs, SqL K H1 a xs) ∧ R (Itl K a) H1) ∨ ((∃ xs, SqT K H1 a xs) ∧ R (Itt K a) H1)
  | _ => False
theorem PIwk {tg iter : Expr} {w w' : TI} (h : PI X tg iter w) (k : ∀ σ H R, w' σ H R → w σ H R) : PI X tg iter w' := ⟨fun p s σ H R I q => h.run p s σ H R I (k _ _ _ q)⟩
theorem piAny {K : PySem.W.Frag} {tg e : Expr} {te : TE} (he : PE X e te) (hK : X.K = K := by rfl) : PI X tg e (iAnyU K te) := by
  subst hK
  refine ⟨fun pins s σ H R I h => ?_⟩
  -- the value is found first; what walks it follows its kind
  have key : ∀ (v : V) (H1 : Hp) (u : Value) (s1 : Shared), Inv X pins σ H1 s1 → RelV v u → (match v with
      | .str z => R (Its z) H1
      | .ref a => ((∃ xs, SqL X.K H1 a xs) ∧ R (Itl X.K a) H1) ∨ ((∃ xs, SqT X.K H1 a xs) ∧ R (Itt X.K a) H1)
      | _ => False) → wpAny (model X.prog X.w) X.A (pyIter u) (PIE X pins σ tg R) X.xe s1 := by
    intro v H1 u s1 I1 r1 q
    cases v with
    | str x =>
      obtain ⟨t, rfl⟩ := r1
      cases ha : x.cps.all (· < 128)
      · exact wpAny_pyIter_wide ha (pi_one (tk := s1.toks) I1 _ (turn_str _ x t "str_iterator" (.inr rfl)) ⟨_, Heap.get?_push_size _ rfl, rfl, rfl⟩ q)
      · exact wpAny_pyIter_ascii ha (pi_one (tk := s1.toks) I1 _ (turn_str _ x t "str_ascii_iterator" (.inl rfl)) ⟨_, Heap.get?_push_size _ rfl, rfl, rfl⟩ q)
    | ref a =>
      cases r1
      rcases q with ⟨⟨xs, hq⟩, q⟩ | ⟨⟨xs, hq⟩, q⟩
      · obtain ⟨its, rv, pl, hz⟩ := I1.list hq
        exact wpAny_pyIter_list pl.isList (pi_one (tk := s1.toks) I1 _ (turn_list a _) ⟨_, Heap.get?_push_size _ rfl, rfl, rfl⟩ q)
      · obtain ⟨its, rv, pl, hz⟩ := I1.tuple hq
        exact wpAny_pyIter_tuple (show s1.heap.IsTuple a its.toArray from pl) (pi_one (tk := s1.toks) I1 _ (turn_tuple a _) ⟨_, Heap.get?_push_size _ rfl, rfl, rfl⟩ q)
    | _ => exact q.elim
  refine thn (he.run pins s σ H _ I h) fun u s1 ⟨v, H1, I1, r1, q⟩ => key v H1 u s1 I1 r1 q
/-! ### a module's constant -/
theorem nGlobI {x : Str} {i : Int} {pos : Pos} (hm : ∃ t, X.mg x = some (.int i t)) (hg : Gl X x := by rfl) (hd : (x == ("__debug__" : Str)) = false := by decide) : PE X (.Name x pos) (tC (.int i)) := by
  obtain ⟨t, hm⟩ := hm
  exact pe_glob hg hm ⟨t, rfl⟩ hd
theorem nGlobS {x z : Str} {pos : Pos} (hm : ∃ t, X.mg x = some (.str z t)) (hg : Gl X x := by rfl) (hd : (x == ("__debug__" : Str)) = false := by decide) : PE X (.Name x pos) (tC (.str z)) := by
  obtain ⟨t, hm⟩ := hm
  exact pe_glob hg hm ⟨t, rfl⟩ hd
/-- a tuple of the module's top -/
def GTup (K : PySem.W.Frag) (mg : Str → Option Value) (x : Str) (xs : List V) : Prop := ∃ a, mg x = some (.ref a) ∧ ∀ H, SqT K H a xs
def mGT (K : PySem.W.Frag) (xs : List V) : TE := fun _ H Q => ∀ a, (∀ H, SqT K H a xs) → Q (.ref a) H
theorem nGlobT {x : Str} {xs : List V} {pos : Pos} (hm : GTup X.K X.mg x xs) (hg : Gl X x := by rfl) (hd : (x == ("__debug__" : Str)) = false := by decide) : PE X (.Name x pos) (mGT X.K xs) := by
  obtain ⟨a, hm, hs⟩ := hm
  exact PEwk (pe_glob hg hm (v := .ref a) rfl hd) fun σ H Q h => h a hs
theorem nTy {x : Str} {T : String} {pos : Pos} (hm : X.mg x = none) (hv : bootBuiltins x = some (.type T)) (hg : Gl X x := by rfl) (hn : x ≠ "__name__" := by decide) (hd : (x == ("__debug__" : Str)) = false := by decide) : PE X (.Name x pos) (tC (.ty T)) := pe_bltn hg hm hv (v := .ty T) rfl hn hd
/-! ### exceptions of own classes over ValueError -/
structure ExcK (K : PySem.W.Frag) (mg : Str → Option Value) (x : Str) : Prop where
  ex : ∃ C, mg x = some (.ref C) ∧ PySem.W.excIn K C [.type "ValueError", .type "Exception", .type "BaseException", .type "object"] "ValueError.__new__" = true ∧ PySem.W.keepIn K (.ref C) = true ∧
    PySem.W.subIn K (.ref C) (.type "BaseException") = some true ∧ PySem.W.typeIn K (.ref C) = some (.type "type")
/-- raise X('..') -/
theorem nMk {K : PySem.W.Frag} {mg : Str → Option Value} {x m : Str} {j : Nat} {p p2 pos : Pos} (h : ExcK K mg x) (hM : X.mg = mg := by rfl) (hK : X.K = K := by rfl) (hg : Gl X x := by rfl) (hdb : (x == ("__debug__" : Str)) = false := by decide) : PMk X (.Call (.Name x p) [.Constant (.str m) j p2] [] pos) (fun _ H Q => ∀ cls, mg x = some cls → Q cls none H) := by
  subst hM
  subst hK
  obtain ⟨C, g, e, kp, sb, ty⟩ := h.ex
  intro pins s σ H Q I q
  exact pmk_own PySem.F.excBase_ValueError e g kp (raises_own sb ty) hg hdb pins s σ H Q I (q _ g)
/-- try: .. except X: .. -/
theorem nTryOnly {x : Str} {body suite : List Stmt} {b₀ : Stmt} {np pos pos' : Pos} {tb : WX → TS} {ts : Addr → Value → Option Addr → TS} {Wout : WX} (hs : X.stack = X.env :: X.outer) (hf : X.env.frame = some X.env.locals) (hx : ExcK X.K X.mg x) (tk : Takes X Wout)
    (hb : ∀ (W : WX) (pn : List (Addr × Obj)) (xe : Value → Shared → Prop), Takes (X.tr pn xe) W → PassesOwn (model X.prog X.w) X.A X.env xe → PSs (X.tr pn xe) body (tb W))
    (hsu : ∀ (a : Addr) (oe : Obj) (cls : Value) (d : Option Addr) (pn : List (Addr × Obj)), Zc cls d oe → (∃ vs, oe.data = .fields vs) → PSs (X.suite a ((a, oe) :: pn)) (b₀ :: suite) (ts a cls d)) (hg : Gl X x := by rfl) (hdb : (x == ("__debug__" : Str)) = false := by decide) :
    PS X (.Try body [.ExceptHandler (some (.Name x np)) none (b₀ :: suite) pos'] [] [] pos) (fun D σ H => ∀ c, X.mg x = some c → tb (wOnly X.K c ts Wout D) D σ H) := by
  obtain ⟨C, g, e, kp, sb, ty⟩ := hx.ex
  refine ⟨fun pins s σ H D I h => ?_⟩
  exact (ps_try_only hs hf ⟨hg, hdb, .inl g⟩ tk hb hsu).run pins s σ H D I (h _ g)
theorem nTryAs {x n : Str} {i : Nat} {body suite : List Stmt} {b₀ : Stmt} {np pos pos' : Pos} {tb : WX → TS} {ts : Addr → Value → Option Addr → TS} {Wout : WX} (hs : X.stack = X.env :: X.outer) (hf : X.env.frame = some X.env.locals) (hN : X.N.Nodup) (hi : X.N[i]? = some n) (hln : X.env.kindOf n = some .local) (hx : ExcK X.K X.mg x) (tk : Takes X Wout)
    (hb : ∀ (W : WX) (pn : List (Addr × Obj)) (xe : Value → Shared → Prop), Takes (X.tr pn xe) W → PassesOwn (model X.prog X.w) X.A X.env xe → PSs (X.tr pn xe) body (tb W))
    (hsu : ∀ (a : Addr) (oe : Obj) (cls : Value) (d : Option Addr) (pn : List (Addr × Obj)), Zc cls d oe → (∃ vs, oe.data = .fields vs) → PSs (X.suite a ((a, oe) :: pn)) (b₀ :: suite) (ts a cls d)) (hg : Gl X x := by rfl) (hdb : (x == ("__debug__" : Str)) = false := by decide) :
    PS X (.Try body [.ExceptHandler (some (.Name x np)) (some n) (b₀ :: suite) pos'] [] [] pos) (fun D σ H => ∀ c, X.mg x = some c → tb (wAs X.K c i ts Wout D) D σ H) := by
  obtain ⟨C, g, e, kp, sb, ty⟩ := hx.ex
  refine ⟨fun pins s σ H D I h => ?_⟩
  exact (ps_try_as hs hf hN hi hln ⟨hg, hdb, .inl g⟩ tk hb hsu).run pins s σ H D I (h _ g)
/-- a class of the top as a value -/
theorem nGlobC {K : PySem.W.Frag} {mg : Str → Option Value} {x : Str} {pos : Pos} (h : ExcK K mg x) (hM : X.mg = mg := by rfl) (hg : Gl X x := by rfl) (hd : (x == ("__debug__" : Str)) = false := by decide) : PE X (.Name x pos) (fun _ H Q => ∀ C, mg x = some (.ref C) → Q (.ref C) H) := by
  subst hM
  obtain ⟨C, g, _⟩ := h.ex
  exact PEwk (pe_glob hg g (v := .ref C) rfl hd) fun σ H Q q => q C g
/-- isinstance of the exception that a suite holds -/
def rIsEU (K : PySem.W.Frag) (a : Addr) (cls : Value) (d : Option Addr) : List V → Hp → VK → Prop := fun xs H Q => ∃ D, cls = .ref D ∧ d = none ∧ L2.ExcC K D ∧ rIsE K D a xs H Q
theorem cIsE {K : PySem.W.Frag} {a : Addr} {cls : Value} {d : Option Addr} {oe : Obj} {pn : List (Addr × Obj)} (hz : Zc cls d oe) (hf : ∃ vs, oe.data = .fields vs) (hK : X.K = K := by rfl) : CallR (X.suite a ((a, oe) :: pn)) (.builtin "isinstance") (rIsEU K a cls d) := by
  subst hK
  intro pins s σ H xs us Q I r h
  obtain ⟨D, rfl, rfl, C, h⟩ := h
  exact call_isE C hz hf pins s σ H xs us Q I r h
def IsX (K : PySem.W.Frag) (mg : Str → Option Value) (x : Str) : Prop := ∃ C, mg x = some (.ref C) ∧ L2.ExcC K C
/-- isinstance(an X, the own class Y) -/
def KitX (K : PySem.W.Frag) (mg : Str → Option Value) (x y : Str) (b : Bool) : Prop := ∀ c1 c2, mg x = some c1 → mg y = some c2 → PySem.W.kitOne K c1 c2 = some b
/-- isinstance(an X, the built-in class T) -/
def KitT (K : PySem.W.Frag) (mg : Str → Option Value) (x : Str) (T : String) (b : Bool) : Prop := ∀ c1, mg x = some c1 → PySem.W.kitOne K c1 (.type T) = some b
theorem kitx_mk {K : PySem.W.Frag} {h : Heap} {mg : Str → Option Value} (X : K.In h) (G : h.Ns mainGlobals mg) {x y : Str} {b : Bool} {C S : Addr} (a1 : PySem.W.nsIn K mainGlobals x = some (some (.ref C))) (a2 : PySem.W.nsIn K mainGlobals y = some (some (.ref S)))
    (h2 : PySem.W.isClsIn K S = true) (h3 : PySem.W.typeIn K (.ref S) = some (.type "type")) (h4 : PySem.W.subIn K (.ref C) (.ref S) = some b) (h5 : x = y → b = true) (h6 : C = S → x = y) : KitX K mg x y b := by
  intro c1 c2 e1 e2
  rw [PySem.W.mg_of X G a1] at e1
  rw [PySem.W.mg_of X G a2] at e2
  cases e1
  cases e2
  have q2 : ((PySem.W.clsIn K S).isSome && PySem.W.typeIn K (.ref S) == some (.type "type")) = true := by
    have z : (PySem.W.clsIn K S).isSome = true := h2
    rw [z, h3]; rfl
  show (if (Value.ref C == Value.ref S) = true then some true else if ((PySem.W.clsIn K S).isSome && PySem.W.typeIn K (.ref S) == some (.type "type")) = true then PySem.W.subIn K (.ref C) (.ref S) else none) = some b
  by_cases q : (Value.ref C == Value.ref S) = true
  · rw [if_pos q]
    have : C = S := by
      have := eq_of_beq q
      injection this
    rw [h5 (h6 this)]
  · rw [if_neg q, if_pos q2]
    exact h4
theorem kitt_mk {K : PySem.W.Frag} {h : Heap} {mg : Str → Option Value} (X : K.In h) (G : h.Ns mainGlobals mg) {x : Str} {T : String} {b : Bool} {C : Addr} (a1 : PySem.W.nsIn K mainGlobals x = some (some (.ref C))) (hT : PySem.W.kitMeta T = true)
    (h4 : PySem.W.subIn K (.ref C) (.type T) = some b) : KitT K mg x T b := by
  intro c1 e1
  rw [PySem.W.mg_of X G a1] at e1
  cases e1
  show (if (Value.ref C == Value.type T) = true then some true else if PySem.W.kitMeta T = true then PySem.W.subIn K (.ref C) (.type T) else none) = some b
  rw [if_neg (by intro q; cases q), if_pos hT]
  exact h4
/-- what an except clause of Y says of an exception of the class X -/
def ExM (K : PySem.W.Frag) (mg : Str → Option Value) (x y : Str) (b : Bool) : Prop := ∀ c1 c2, mg x = some c1 → mg y = some c2 → PySem.W.exmOne K c1 c2 = some b
theorem exm_mk {K : PySem.W.Frag} {h : Heap} {mg : Str → Option Value} (X : K.In h) (G : h.Ns mainGlobals mg) {x y : Str} {b : Bool} {C S : Addr} (a1 : PySem.W.nsIn K mainGlobals x = some (some (.ref C))) (a2 : PySem.W.nsIn K mainGlobals y = some (some (.ref S)))
    (h1 : PySem.W.subIn K (.ref S) (.type "BaseException") = some true) (h2 : PySem.W.isClsIn K S = true) (h3 : PySem.W.typeIn K (.ref S) = some (.type "type")) (h4 : PySem.W.subIn K (.ref C) (.ref S) = some b) : ExM K mg x y b := by
  intro c1 c2 e1 e2
  have f1 := PySem.W.mg_of X G a1
  have f2 := PySem.W.mg_of X G a2
  rw [f1] at e1
  rw [f2] at e2
  cases e1
  cases e2
  have q1 : (PySem.W.subIn K (.ref S) (.type "BaseException") == some true) = true := by rw [h1]; rfl
  have q2 : ((PySem.W.clsIn K S).isSome && PySem.W.typeIn K (.ref S) == some (.type "type")) = true := by
    have z : (PySem.W.clsIn K S).isSome = true := h2
    rw [z, h3]; rfl
  show (if (PySem.W.subIn K (.ref S) (.type "BaseException") == some true) = true then (if ((PySem.W.clsIn K S).isSome && PySem.W.typeIn K (.ref S) == some (.type "type")) = true then PySem.W.subIn K (.ref C) (.ref S) else none) else none) = some b
  rw [if_pos q1, if_pos q2]
  exact h4
/-! ### a def that is called -/
end
/-- a def of the top that keeps a promise -/
def Cal (P : Program) (w : World) (K : PySem.W.Frag) (mg : Str → Option Value) (base : Heap) (CX : CXT) (k : Nat) (x : Str) (ps : List Str) (sp : Sp) : Prop :=
  ∃ f fd, mg x = some (.ref f) ∧ PySem.W.keepIn K (.ref f) = true ∧ Binds K fd ps [] ∧ FnOk P w K mg base CX k f fd ps sp
/-- a def of the text, as the top has left it -/
def Fn (K : PySem.W.Frag) (mg : Str → Option Value) (g x : Str) (st : Stmt) (ps : List Str) : Prop :=
  ∃ f fd, mg g = some (.ref f) ∧ Fun K x x st f fd ∧ Binds K fd ps []
section
variable {P : Program} {w : World} {K : PySem.W.Frag} {mg : Str → Option Value} {base : Heap}
theorem Fn.ok {g x : Str} {st : Stmt} {N ps : List Str} {k : Nat} {sp : Sp} (F : Fn K mg g x st ps) (S : FnScope N ps (defScope st)) (len : ∀ vs H Q E, sp vs H Q E → vs.length = ps.length)
    (hbody : ∀ (f : Addr) (cdv : Value) (A : Around) (outer : List Env) (s : Shared) (H : Hp) (vs : List V) (Q : VK) (E : XK), Room k (A.deeper (envOfC x (defScope st) s.heap.objs.size f cdv)) → sp vs H Q E →
      ∃ t, PSs (cxOf CX0 P w K mg base N x (defScope st) f cdv A outer s H E).nox (defBody st) t ∧ t { nx := fun _ H' => Q .non H', rt := Q } (start N vs) H) : Cal P w K mg base CX0 (k + 1) g ps sp := by
  obtain ⟨f, fd, hm, F, b⟩ := F
  exact ⟨f, fd, hm, F.kp, b, F.ok S len fun cdv A outer s H vs Q E hr h => hbody f cdv A outer s H vs Q E hr h⟩
theorem Fn.okX {g x : Str} {st : Stmt} {N ps : List Str} {k : Nat} {sp : Sp} (F : Fn K mg g x st ps) (S : FnScope N ps (defScope st)) (len : ∀ vs H Q E, sp vs H Q E → vs.length = ps.length)
    (hbody : ∀ (f : Addr) (cdv : Value) (A : Around) (outer : List Env) (s : Shared) (H : Hp) (vs : List V) (Q : VK) (E : XK), Room k (A.deeper (envOfC x (defScope st) s.heap.objs.size f cdv)) → sp vs H Q E →
      ∃ t, PSs (cxOf (L2.CX P w) P w K mg base N x (defScope st) f cdv A outer s H E) (defBody st) t ∧ t { nx := fun _ H' => Q .non H', rt := Q } (start N vs) H) : Cal P w K mg base (L2.CX P w) (k + 1) g ps sp := by
  obtain ⟨f, fd, hm, F, b⟩ := F
  exact ⟨f, fd, hm, F.kp, b, F.okX S len fun cdv A outer s H vs Q E hr h => hbody f cdv A outer s H vs Q E hr h⟩
theorem fn_mk {h : Heap} (X : K.In h) (G : h.Ns mainGlobals mg) {g x : Str} {st : Stmt} {ps : List Str} {f : Addr} {oc : Value} {od an : Option Addr} {osl : Array (Option Value)} {kV doc pm cdv ct : Value} (a : PySem.W.nsIn K mainGlobals g = some (some (.ref f)))
    (l : K.lookup f = some ⟨oc, od, .func (PySem.W.fnOf x x (defArgs st) (defBody st) (defScope st) .none kV doc pm an cdv ct), osl⟩) (c : PySem.W.codeIn K cdv x = true) (k : PySem.W.keepIn K (.ref f) = true)
    (b : ∀ (kV doc pm : Value) (an : Option Addr) (cdv ct : Value) (us : List Value), us.length = ps.length → bindArgs (PySem.W.fnOf x x (defArgs st) (defBody st) (defScope st) .none kV doc pm an cdv ct) ⟨us, []⟩ = pure (ps.zip us)) : Fn K mg g x st ps :=
  ⟨f, _, PySem.W.mg_of X G a, L2.fun_mk l c k, (L2.fun_mk l c k).binds b⟩
theorem Cal.imp {CX : CXT} {k : Nat} {x : Str} {ps : List Str} {sp sp' : Sp} (C : Cal P w K mg base CX k x ps sp) (h : ∀ vs H Q E, sp' vs H Q E → sp vs H Q E) : Cal P w K mg base CX k x ps sp' := by
  obtain ⟨f, fd, hm, kp, b, F⟩ := C
  exact ⟨f, fd, hm, kp, b, F.imp h⟩
theorem Cal.mono {CX : CXT} {j k : Nat} {x : Str} {ps : List Str} {sp : Sp} (C : Cal P w K mg base CX j x ps sp) (h : j ≤ k) : Cal P w K mg base CX k x ps sp := by
  obtain ⟨f, fd, hm, kp, b, F⟩ := C
  exact ⟨f, fd, hm, kp, b, F.mono h⟩
end
section
variable {X : Cx} {CX : CXT} {k : Nat} {ps : List Str} {sp : Sp} {E : XK} {x : Str} {p pos : Pos} {e : Expr} {es : List Expr} {t : TA}
/-- f(..) -/
def mCall (sp : Sp) (E : XK) (t : TA) : TE := fun σ H Q => t σ H fun vs H1 => sp vs H1 Q E
theorem nCall (C : Cal X.prog X.w X.K X.mg X.base CX k x ps sp) (hr : Room k X.A) (hx : Passes CX X E) (ha : PA X (e :: es) t) (hg : Gl X x := by rfl) (hdb : (x == ("__debug__" : Str)) = false := by decide)
    (he : starEach (e :: es) X.env = (false, eval e X.env) :: starEach es X.env := by rfl) (hpl : (backTo pos (starEach es X.env)).any (·.1) = false := by rfl) : PE X (.Call (.Name x p) (e :: es) [] pos) (mCall sp E t) := by
  obtain ⟨f, fd, hm, kp, b, F⟩ := C
  refine ⟨fun pins s σ H Q I h => ?_⟩
  refine (pe_call F hr hg hm kp b .nil hx ha hdb he hpl).run pins s σ H Q I ?_
  have e : (fun vs H1 => sp (vs ++ []) H1 Q E) = fun vs H1 => sp vs H1 Q E := by
    funext vs H1
    rw [List.append_nil]
  show t σ H fun vs H1 => sp (vs ++ []) H1 Q E
  rw [e]
  exact h
/-- f(..), what is raised told at the slots -/
def mCallS (sp : Sp) (E : L2.St → XK) (t : TA) : TE := fun σ H Q => t σ H fun vs H1 => sp vs H1 Q (E σ)
theorem nCallS {E : L2.St → XK} (C : Cal X.prog X.w X.K X.mg X.base CX k x ps sp) (hr : Room k X.A) (hx : ∀ σ, PassesAt CX X σ (E σ)) (ha : PA X (e :: es) t) (hg : Gl X x := by rfl) (hdb : (x == ("__debug__" : Str)) = false := by decide)
    (he : starEach (e :: es) X.env = (false, eval e X.env) :: starEach es X.env := by rfl) (hpl : (backTo pos (starEach es X.env)).any (·.1) = false := by rfl) : PE X (.Call (.Name x p) (e :: es) [] pos) (mCallS sp E t) := by
  obtain ⟨f, fd, hm, kp, b, F⟩ := C
  exact pe_callS F hr hg hm kp b hx ha hdb he hpl
theorem nCall0 (C : Cal X.prog X.w X.K X.mg X.base CX k x ps sp) (hr : Room k X.A) (hx : Passes CX X E) (hg : Gl X x := by rfl) (hdb : (x == ("__debug__" : Str)) = false := by decide) : PE X (.Call (.Name x p) [] [] pos) (fun _ H Q => sp [] H Q E) := by
  obtain ⟨f, fd, hm, kp, b, F⟩ := C
  refine ⟨fun pins s σ H Q I h => ?_⟩
  exact (pe_call0 F hr hg hm kp b .nil hx hdb).run pins s σ H Q I h
end
end NV

set_option Elab.async false
set_option linter.all false
set_option maxRecDepth 100000
set_option maxHeartbeats 4000000
/-! # the law's stream: a list of four, told by what is true of its one object -/
namespace NV
open PySem PySem.Spec PyProof.Rows L2
def Strm (p q : Addr) (h : Heap) : Prop := ∃ (a b c : Int) (t1 t2 t3 : Tok) (n : Nat), h.get? p = some { cls := .type "list", data := .seq #[.ref q, .int a t1, .int b t2, .int c t3] n } ∧ 0 ≤ b
/-- a stream to draw from stands at p -/
def StrmAt (H : Hp) (p : Addr) : Prop := ∃ (q : Addr) (ns : List Int), H p = some (.ext (Strm p q)) ∧ H q = some (.lst (ns.map V.int))
theorem StrmAt.mono {H H' : Hp} {p : Addr} (e : Evl.Ex H H') (h : StrmAt H p) : StrmAt H' p := by
  obtain ⟨q, ns, h1, h2⟩ := h
  exact ⟨q, ns, e _ _ h1, e _ _ h2⟩
section
variable {P : Program} {w : World} {K : PySem.W.Frag} {mg : Str → Option Value} {base : Heap}
theorem strm_of {H : Hp} {h : Heap} {p q : Addr} {a b c : Int} (x : ObjOk P w H h p (.lst [.ref q, .int a, .int b, .int c])) (hb : 0 ≤ b) : Strm p q h := by
  obtain ⟨_, its, n, r, e⟩ := x
  cases r with
  | cons r0 r => cases r with
    | cons r1 r => cases r with
      | cons r2 r => cases r with
        | cons r3 r =>
          cases r
          cases r0
          obtain ⟨t1, rfl⟩ := r1
          obtain ⟨t2, rfl⟩ := r2
          obtain ⟨t3, rfl⟩ := r3
          exact ⟨a, b, c, t1, t2, t3, n, e, hb⟩
theorem strm_ext {H : Hp} {h : Heap} {p q : Addr} (x : Strm p q h) : ObjOk P w H h p (.ext (Strm p q)) := by
  refine ⟨x, ?_, fun h1 h2 y k => ?_⟩
  · obtain ⟨a, b, c, t1, t2, t3, n, e, _⟩ := x
    exact ⟨_, e⟩
  · obtain ⟨a, b, c, t1, t2, t3, n, e, hb⟩ := y
    exact ⟨a, b, c, t1, t2, t3, n, k _ e, hb⟩
/-- what stands at p is told otherwise: neither telling is one that others lean on -/
theorem hok_tell {H : Hp} {h : Heap} {p : Addr} {o : HO} (ok : HOk P w H h) (no : ∀ y, H p ≠ some (.own y)) (nt : ∀ xs, H p ≠ some (.tup xs)) (new : ObjOk P w (upd H p o) h p o) : HOk P w (upd H p o) h := fun b u e => by
  by_cases hb : b = p
  · subst hb
    rw [upd_same] at e
    cases e
    exact new
  · rw [upd_ne hb] at e
    exact (ok b u e).stay (fun c v _ q => q) (fun c q => by rw [upd_ne (fun z => by rw [z] at q; exact no _ q)]; exact q) (fun c xs q => by rw [upd_ne (fun z => by rw [z] at q; exact nt _ q)]; exact q)
/-- a def that hands back, beside what it promises, a list of four: it stands as a stream from there on -/
theorem Cal.seal {k : Nat} {x : Str} {ps : List Str} {sp sp' : Sp} (C : Cal P w K mg base CX0 k x ps sp)
    (h : ∀ vs H Q E, sp' vs H Q E → sp vs H (fun v H' => ∃ (p q : Addr) (a b c : Int), H' p = some (.lst [.ref q, .int a, .int b, .int c]) ∧ 0 ≤ b ∧ Q v (upd H' p (.ext (Strm p q)))) E) : Cal P w K mg base CX0 k x ps sp' := by
  obtain ⟨f, fd, hm, kp, bd, F⟩ := C
  refine ⟨f, fd, hm, kp, bd, fun vs H Q E q => F.len _ _ _ _ (h _ _ _ _ q), fun A outer s H args us vs Q E hr he hb hv hs => codeAny_mono (F.run A outer s H args us vs _ E hr he hb hv (h _ _ _ _ hs)) fun r s' hq => ?_⟩
  cases r with
  | error e => exact hq
  | ok fl =>
    cases fl with
    | ret u =>
      obtain ⟨v, H', os, bare, un, hok, rv, p, q, a, b, c, hp, hb0, qq⟩ := hq
      have neS : ∀ d, H' d = none → d ≠ p := fun d e z => by rw [z, hp] at e; cases e
      refine ⟨v, upd H' p (.ext (Strm p q)), os, bare, ⟨un.keep, un.slot, fun d o e n hx => ?_, un.there, fun d xs e => ?_, fun d o y e => ?_, fun d tb e => ?_⟩, ?_, rv, qq⟩
      · have n' := un.free d o e n hx
        rw [upd_ne (neS d n')]
        exact n'
      · have z := un.tups d xs e
        rw [upd_ne (fun y => by rw [y, hp] at z; cases z)]
        exact z
      · have z := un.frzs d o y e
        rw [upd_ne (fun y => by rw [y, hp] at z; cases z)]
        exact z
      · obtain ⟨m, z⟩ := un.tbls d tb e
        exact ⟨m, by rw [upd_ne (fun y => by rw [y, hp] at z; cases z)]; exact z⟩
      · exact hok_tell hok (fun y e => by rw [hp] at e; cases e) (fun y e => by rw [hp] at e; cases e) (strm_ext (strm_of (hok p _ hp) hb0))
    | next => exact hq
    | brk => exact hq
    | cont => exact hq
/-- a def that draws from a stream: the list of four is seen within it alone -/
theorem Cal.unseal {k : Nat} {x : Str} {ps : List Str} {sp sp' : Sp} (C : Cal P w K mg base CX0 k x ps sp)
    (hl : ∀ vs H Q E, sp' vs H Q E → vs.length = ps.length)
    (h : ∀ vs H Q E, sp' vs H Q E → ∃ p, (StrmAt H p) ∧ ∀ (q : Addr) (ns : List Int) (a b c : Int), H p = some (.ext (Strm p q)) → H q = some (.lst (ns.map V.int)) → 0 ≤ b →
      sp vs (upd H p (.lst [.ref q, .int a, .int b, .int c])) (fun v H' => Q v H ∧ ∃ (a' b' c' : Int), 0 ≤ b' ∧ H' = upd (upd H p (.lst [.ref q, .int a, .int b, .int c])) p (.lst [.ref q, .int a', .int b', .int c'])) E) : Cal P w K mg base CX0 k x ps sp' := by
  obtain ⟨f, fd, hm, kp, bd, F⟩ := C
  refine ⟨f, fd, hm, kp, bd, hl, fun A outer s H args us vs Q E hr he hb hv hs => ?_⟩
  obtain ⟨p, ⟨q, ns, hp, hq⟩, hs⟩ := h _ _ _ _ hs
  obtain ⟨⟨a, b, c, t1, t2, t3, n, hg, hb0⟩, _, _⟩ := he.hok p _ hp
  have hs := hs q ns a b c hp hq hb0
  have neS : ∀ d, H d = none → d ≠ p := fun d e z => by rw [z, hp] at e; cases e
  have he1 : Env0 P w K mg base A outer s (upd H p (.lst [.ref q, .int a, .int b, .int c])) := by
    refine ⟨he.frames, he.mod, fun d o e => ?_, he.bsz, he.funs, fun d hd => ?_, ?_, he.bare⟩
    · obtain ⟨e1, e2⟩ := he.bs d o e
      exact ⟨e1, by rw [upd_ne (neS d e2)]; exact e2⟩
    · have e2 := he.frf d hd
      rw [upd_ne (neS d e2)]
      exact e2
    · exact hok_tell he.hok (fun y e => by rw [hp] at e; cases e) (fun y e => by rw [hp] at e; cases e)
        ⟨by show 4 ≤ sizeLine; decide, _, n, .cons rfl (.cons ⟨t1, rfl⟩ (.cons ⟨t2, rfl⟩ (.cons ⟨t3, rfl⟩ .nil))), hg⟩
  refine codeAny_mono (F.run A outer s _ args us vs _ E hr he1 hb hv hs) fun r s' hq2 => ?_
  cases r with
  | error e => exact hq2
  | ok fl =>
    cases fl with
    | ret u =>
      obtain ⟨v, H', os, bare, un, hok, rv, qq, a', b', c', hb1, rfl⟩ := hq2
      rw [upd_upd] at hok un
      refine ⟨v, H, os, bare, ⟨fun d o e n => un.keep d o e (by rw [upd_ne (neS d n)]; exact n), fun d o e n => un.slot d o e (by rw [upd_ne (neS d n)]; exact n), fun d o e n hx => n, un.there, fun d xs e => e, fun d o y e => e, fun d tb e => ⟨#[], by rw [e]; simp⟩⟩, ?_, rv, qq⟩
      have x := hok p _ upd_same
      have y := hok_tell (o := .ext (Strm p q)) hok (fun y e => by rw [upd_same] at e; cases e) (fun y e => by rw [upd_same] at e; cases e) (strm_ext (strm_of x hb1))
      rw [upd_upd] at y
      have z : upd H p (.ext (Strm p q)) = H := by
        funext d
        unfold upd
        by_cases hd : d = p
        · rw [if_pos hd, hd, hp]
        · rw [if_neg hd]
      rw [z] at y
      exact y
    | next => exact hq2
    | brk => exact hq2
    | cont => exact hq2
end
end NV

set_option Elab.async false
set_option linter.all false
set_option maxRecDepth 100000
set_option maxHeartbeats 4000000
/-! # texts and trees -/
namespace NV
open PySem PySem.Spec PyProof.Rows L2
open Evl (Ex)
/-- a text by its signs -/
abbrev S (l : List Nat) : Str := ⟨l.toArray⟩
theorem S_append (a b : List Nat) : S a ++ S b = S (a ++ b) := by
  show (⟨a.toArray ++ b.toArray⟩ : Str) = ⟨(a ++ b).toArray⟩
  rw [List.append_toArray]
theorem S_len (a : List Nat) : (S a).length = a.length := rfl
theorem S_add_len (x y : Str) : (x ++ y).length = x.length + y.length := by
  obtain ⟨x, rfl⟩ : ∃ l, x = S l := ⟨x.cps.toList, rfl⟩
  obtain ⟨y, rfl⟩ : ∃ l, y = S l := ⟨y.cps.toList, rfl⟩
  rw [S_append, S_len, List.length_append]
  rfl
theorem cut_len (z : Str) (lo hi : Option Int) : (cutS z lo hi).length ≤ z.length := by
  obtain ⟨l, rfl⟩ : ∃ l, z = S l := ⟨z.cps.toList, rfl⟩
  show (List.take _ (List.drop _ l)).length ≤ l.length
  rw [List.length_take, List.length_drop]
  omega
theorem S_inj {a b : List Nat} (h : S a = S b) : a = b := by
  have := congrArg (fun s : Str => s.cps.toList) h
  exact this
theorem S_cut (a : List Nat) (lo hi : Option Int) : cutS (S a) lo hi = S ((a.drop (HT.sIx a.length 0 lo)).take (HT.sIx a.length a.length hi - HT.sIx a.length 0 lo)) := rfl
theorem S_rep (a : List Nat) (n : Nat) : repS (S a) n = S (List.replicate n a).flatten := rfl
theorem S_of (s : Str) : ∃ l, s = S l := ⟨s.cps.toList, rfl⟩
/-- a stand-alone fact of new objects -/
theorem ne_new {H : Hp} {a b : Addr} {o : HO} (h : H a = some o) (h' : H b = none) : b ≠ a := (ne_of_none h h').symm
theorem okB {p : Prop} [Decidable p] {Q : VK} {H : Hp} (h : p) (k : Q (.bl true) H) : Q (.bl (decide p)) H := by
  rw [decide_eq_true h]
  exact k
theorem iteB {b : Bool} {A B : Prop} (h1 : b = true → A) (h2 : b = false → B) : if b = true then A else B := by
  cases b with
  | true => exact h1 rfl
  | false => exact h2 rfl
theorem iteD {p : Prop} [Decidable p] {A B : Prop} (h1 : p → A) (h2 : ¬ p → B) : if decide p = true then A else B := by
  by_cases h : p
  · rw [decide_eq_true h]; exact h1 h
  · rw [decide_eq_false h]; exact h2 h
theorem iteN {p : Prop} [Decidable p] {A B : Prop} (h1 : ¬ p → A) (h2 : p → B) : if (!decide p) = true then A else B := by
  by_cases h : p
  · rw [decide_eq_true h]; exact h2 h
  · rw [decide_eq_false h]; exact h1 h
theorem iteI {i j : Int} {A B : Prop} (h1 : i = j → A) (h2 : ¬ i = j → B) : if decide (V.int i = V.int j) = true then A else B :=
  iteD (fun h => h1 (V.int.inj h)) (fun h => h2 fun e => h (by rw [e]))
theorem iteNI {i j : Int} {A B : Prop} (h1 : ¬ i = j → A) (h2 : i = j → B) : if (!decide (V.int i = V.int j)) = true then A else B :=
  iteN (fun h => h1 fun e => h (by rw [e])) (fun h => h2 (V.int.inj h))
theorem iteS {i j : Str} {A B : Prop} (h1 : i = j → A) (h2 : ¬ i = j → B) : if decide (V.str i = V.str j) = true then A else B :=
  iteD (fun h => h1 (V.str.inj h)) (fun h => h2 fun e => h (by rw [e]))
theorem upd_self {H : Hp} {p : Addr} {o : HO} (h : H p = some o) : upd H p o = H := by
  funext d
  unfold upd
  by_cases hd : d = p
  · rw [if_pos hd, hd, h]
  · rw [if_neg hd]
theorem atI_at {α : Type} {xs : List α} {i : Int} (h0 : 0 ≤ i) (h1 : i < xs.length) : ∃ h : i.toNat < xs.length, atI xs i = some xs[i.toNat] := by
  have h : i.toNat < xs.length := by omega
  refine ⟨h, ?_⟩
  have := atI_nat (xs := xs) (j := i.toNat) (List.getElem?_eq_getElem h)
  rw [Int.toNat_of_nonneg h0] at this
  exact this
theorem atI_int {ns : List Int} {i : Int} (h0 : 0 ≤ i) (h1 : i < (ns.map V.int).length) : ∃ z, atI (ns.map V.int) i = some (.int z) := by
  obtain ⟨h, e⟩ := atI_at (xs := ns.map V.int) h0 h1
  rw [List.getElem_map] at e
  exact ⟨_, e⟩
theorem pickI {xs : List V} {f : V → Bool} (h : xs.all f = true) {i : Int} (h0 : 0 ≤ i) (h1 : i < xs.length) : ∃ v, atI xs i = some v ∧ f v = true := by
  obtain ⟨hi, e⟩ := atI_at h0 h1
  exact ⟨_, e, List.all_eq_true.mp h _ (List.getElem_mem hi)⟩
theorem pick_ix {K : PySem.W.Frag} {H : Hp} {p : Addr} {xs : List V} {f : V → Bool} {i : Int} {Q : V → Prop} (hq : SqA K H p xs) (h : xs.all f = true) (h0 : 0 ≤ i) (h1 : i < xs.length) (k : ∀ v, f v = true → Q v) : ∃ xs v, SqA K H p xs ∧ atI xs i = some v ∧ Q v := by
  obtain ⟨v, e, hv⟩ := pickI h h0 h1
  exact ⟨xs, v, hq, e, k v hv⟩
theorem str_ix {z : Str} {n : Nat} {i : Int} {Q : Nat → Prop} (hn : z.cps.toList.length = n) (hz : n ≤ 100000) (h0 : 0 ≤ i) (h1 : i < n) (k : ∀ c, z.cps.toList[i.toNat]? = some c → Q c) : z.length ≤ sizeLine ∧ ∃ c, atI z.cps.toList i = some c ∧ Q c := by
  have hl : z.length = n := hn
  have hs : sizeLine = 16777216 := sizeLine_eq
  obtain ⟨hi, e⟩ := atI_at (xs := z.cps.toList) h0 (by rw [hn]; exact h1)
  exact ⟨by omega, _, e, k _ (List.getElem?_eq_getElem hi)⟩
theorem mem_ix {K : PySem.W.Frag} {H : Hp} {p : Addr} {xs : List V} {i : Int} {P Q : V → Prop} (hq : SqA K H p xs) (h0 : 0 ≤ i) (h1 : i < xs.length) (hP : ∀ v ∈ xs, P v) (k : ∀ v, P v → Q v) : ∃ xs v, SqA K H p xs ∧ atI xs i = some v ∧ Q v := by
  obtain ⟨hi, e⟩ := atI_at h0 h1
  exact ⟨xs, _, hq, e, k _ (hP _ (List.getElem_mem hi))⟩
theorem mem_of_get {α : Type} {xs : List α} {i : Nat} {x : α} (h : xs[i]? = some x) : x ∈ xs := by
  obtain ⟨hi, e⟩ := List.getElem?_eq_some_iff.mp h
  rw [← e]
  exact List.getElem_mem hi
theorem map_get {α β : Type} {f : α → β} {xs : List α} {i : Nat} {y : β} (h : (xs.map f)[i]? = some y) : ∃ x, xs[i]? = some x ∧ y = f x := by
  rw [List.getElem?_map] at h
  cases e : xs[i]? with
  | none => rw [e] at h; cases h
  | some u => rw [e] at h; exact ⟨u, rfl, (Option.some.inj h).symm⟩
/-! ### signs, trees -/
inductive Tr where
  | l
  | n (a b : Tr)
  deriving DecidableEq
def Tr.enc : Tr → List Nat
  | .l => [48]
  | .n a b => 49 :: (a.enc ++ b.enc)
def Tr.pairs : Tr → Nat
  | .l => 0
  | .n a b => a.pairs + b.pairs + 1
theorem Tr.enc_len : ∀ t : Tr, t.enc.length = 2 * t.pairs + 1
  | .l => rfl
  | .n a b => by
    have h1 := a.enc_len
    have h2 := b.enc_len
    simp only [Tr.enc, Tr.pairs, List.length_cons, List.length_append]
    omega
theorem Tr.enc_ne (t : Tr) : t.enc ≠ [] := by cases t <;> simp [Tr.enc]
theorem S_app1 (a : List Nat) : S a ++ ("1" : Str) = S (a ++ [49]) := S_append a [49]
theorem S_app0 (a : List Nat) : S a ++ ("0" : Str) = S (a ++ [48]) := S_append a [48]
/-- m trees are missing; how many behind these signs -/
def scan : Nat → List Nat → Option Nat
  | m, [] => some m
  | 0, _ :: _ => none
  | m + 1, c :: cs => if c = 49 then scan (m + 2) cs else if c = 48 then scan m cs else none
theorem scan_nil (m : Nat) : scan m [] = some m := by cases m <;> rfl
theorem scan_zero (c : Nat) (cs : List Nat) : scan 0 (c :: cs) = none := rfl
theorem scan_one (m : Nat) (cs : List Nat) : scan (m + 1) (49 :: cs) = scan (m + 2) cs := rfl
theorem scan_leaf (m : Nat) (cs : List Nat) : scan (m + 1) (48 :: cs) = scan m cs := rfl
theorem scan_other (m : Nat) {c : Nat} (cs : List Nat) (h1 : c ≠ 49) (h0 : c ≠ 48) : scan (m + 1) (c :: cs) = none := by
  show (if c = 49 then _ else if c = 48 then _ else none) = _
  rw [if_neg h1, if_neg h0]
theorem scan_append : ∀ (a b : List Nat) (m : Nat), scan m (a ++ b) = (scan m a).bind fun k => scan k b
  | [], b, m => by rw [List.nil_append, scan_nil]; rfl
  | c :: a, b, 0 => rfl
  | c :: a, b, m + 1 => by
    show (if c = 49 then scan (m + 2) (a ++ b) else if c = 48 then scan m (a ++ b) else none) = (if c = 49 then scan (m + 2) a else if c = 48 then scan m a else none).bind _
    by_cases h1 : c = 49
    · rw [if_pos h1, if_pos h1]; exact scan_append a b (m + 2)
    · rw [if_neg h1, if_neg h1]
      by_cases h0 : c = 48
      · rw [if_pos h0, if_pos h0]; exact scan_append a b m
      · rw [if_neg h0, if_neg h0]; rfl
theorem scan_enc : ∀ (t : Tr) (m : Nat) (r : List Nat), scan (m + 1) (t.enc ++ r) = scan m r
  | .l, m, r => rfl
  | .n a b, m, r => by
    show scan (m + 2) (a.enc ++ b.enc ++ r) = _
    rw [List.append_assoc, scan_enc a (m + 1), scan_enc b m]
theorem scan_enc1 (t : Tr) : scan 1 t.enc = some 0 := by
  have := scan_enc t 0 []
  rw [List.append_nil] at this
  rw [this]
  rfl
/-- what is read to its end is so many trees -/
theorem scan_trees : ∀ (s : List Nat) (m : Nat), scan m s = some 0 → ∃ ts : List Tr, ts.length = m ∧ s = (ts.map Tr.enc).flatten
  | [], m, h => by
    rw [scan_nil] at h
    cases h
    exact ⟨[], rfl, rfl⟩
  | c :: cs, 0, h => by cases h
  | c :: cs, m + 1, h => by
    have h' : (if c = 49 then scan (m + 2) cs else if c = 48 then scan m cs else none) = some 0 := h
    by_cases h1 : c = 49
    · rw [if_pos h1] at h'
      obtain ⟨ts, hl, e⟩ := scan_trees cs (m + 2) h'
      match ts, hl, e with
      | a :: b :: r, hl, e =>
        refine ⟨.n a b :: r, by simpa using hl, ?_⟩
        rw [e, h1]
        simp [Tr.enc, List.append_assoc]
    · rw [if_neg h1] at h'
      by_cases h0 : c = 48
      · rw [if_pos h0] at h'
        obtain ⟨ts, hl, e⟩ := scan_trees cs m h'
        refine ⟨.l :: ts, by simpa using hl, ?_⟩
        rw [e, h0]
        rfl
      · rw [if_neg h0] at h'
        cases h'
theorem scan_tree {s : List Nat} (h : scan 1 s = some 0) : ∃ t : Tr, s = t.enc := by
  obtain ⟨ts, hl, e⟩ := scan_trees s 1 h
  match ts, hl, e with
  | [t], _, e => exact ⟨t, by rw [e]; simp⟩
/-- a tree of at most 200,000 signs -/
def isTr (s : List Nat) : Bool := decide (s.length ≤ 200000) && decide (scan 1 s = some 0)
/-- what is_tree answers of a value -/
inductive TrAns (K : PySem.W.Frag) (H : Hp) : V → Bool → Prop
  | str {l : List Nat} (h : l.length ≤ 10000000) : TrAns K H (.str (S l)) (isTr l)
  | lst {a : Addr} (h : TyX K H (.ref a) (.type "list")) : TrAns K H (.ref a) false
  | tup {a : Addr} (h : TyX K H (.ref a) (.type "tuple")) : TrAns K H (.ref a) false
  | non : TrAns K H .non false
  | int (i : Int) : TrAns K H (.int i) false
  | bl (b : Bool) : TrAns K H (.bl b) false
theorem isTr_enc {t : Tr} (h : t.enc.length ≤ 200000) : isTr t.enc = true := by
  unfold isTr
  rw [scan_enc1, decide_eq_true h]
  rfl
theorem TrAns.tree {K : PySem.W.Frag} {H : Hp} {t : Tr} (h : t.enc.length ≤ 200000) : TrAns K H (.str (S t.enc)) true := by
  have := TrAns.str (K := K) (H := H) (l := t.enc) (by omega)
  rw [isTr_enc h] at this
  exact this
theorem tyx_ex {K : PySem.W.Frag} {H H' : Hp} (e : Ex H H') {v : V} {t : Value} (h : TyX K H v t) : TyX K H' v t := by
  cases h with
  | base h =>
    cases h with
    | non => exact .base .non
    | bl x => exact .base (.bl x)
    | int i => exact .base (.int i)
    | str x => exact .base (.str x)
    | flt x => exact .base (.flt x)
    | lst h => exact .base (.lst (e _ _ h))
    | frz h => exact .base (.frz (e _ _ h))
    | tup h => exact .base (.tup (e _ _ h))
    | dK h => exact .base (.dK (e _ _ h))
    | dT h => exact .base (.dT (e _ _ h))
    | ins h a b c d f => exact .base (.ins (e _ _ h) a b c d f)
  | byt b => exact .byt b
  | set h => exact .set (e _ _ h)
  | kList h c => exact .kList h c
  | kTuple h c => exact .kTuple h c
  | kDict h c => exact .kDict h c
  | fTuple h => exact .fTuple (e _ _ h)
  | fDict h => exact .fDict (e _ _ h)
theorem TrAns.mono {K : PySem.W.Frag} {H H' : Hp} (e : Ex H H') {v : V} {b : Bool} (h : TrAns K H v b) : TrAns K H' v b := by
  cases h with
  | str h => exact .str h
  | lst h => exact .lst (tyx_ex e h)
  | tup h => exact .tup (tyx_ex e h)
  | non => exact .non
  | int i => exact .int i
  | bl b => exact .bl b
theorem enc_inj : ∀ (t u : Tr) (r r' : List Nat), t.enc ++ r = u.enc ++ r' → t = u ∧ r = r'
  | .l, .l, r, r', h => by
    simp only [Tr.enc, List.cons_append, List.nil_append, List.cons.injEq, true_and] at h
    exact ⟨rfl, h⟩
  | .l, .n _ _, r, r', h => by simp [Tr.enc] at h
  | .n _ _, .l, r, r', h => by simp [Tr.enc] at h
  | .n a b, .n c d, r, r', h => by
    simp only [Tr.enc, List.cons_append, List.cons.injEq, true_and, List.append_assoc] at h
    obtain ⟨e1, h⟩ := enc_inj a c _ _ h
    obtain ⟨e2, h⟩ := enc_inj b d _ _ h
    exact ⟨by rw [e1, e2], h⟩
theorem enc_inj1 {t u : Tr} (h : t.enc = u.enc) : t = u := (enc_inj t u [] [] (by rw [h])).1
def tens (n : Nat) : List Nat := (List.replicate n [49, 48]).flatten ++ [48]
theorem flat_len (n : Nat) (l : List Nat) : (List.replicate n l).flatten.length = n * l.length := by
  induction n with
  | zero => simp
  | succ n ih => rw [List.replicate_succ, List.flatten_cons, List.length_append, ih, Nat.succ_mul, Nat.add_comm]
theorem flat_rep {α : Type} (x : α) : ∀ n : Nat, (List.replicate n [x]).flatten = List.replicate n x
  | 0 => rfl
  | n + 1 => by
    rw [List.replicate_succ, List.flatten_cons, flat_rep x n, List.replicate_succ]
    rfl
theorem tens_len (n : Nat) : (tens n).length = 2 * n + 1 := by
  unfold tens
  rw [List.length_append, flat_len]
  show n * 2 + 1 = _
  omega
/-- the number n as a tree -/
def numT : Nat → Tr
  | 0 => .l
  | n + 1 => .n .l (numT n)
theorem numT_enc : ∀ n, (numT n).enc = tens n
  | 0 => rfl
  | n + 1 => by
    show 49 :: ([48] ++ (numT n).enc) = _
    rw [numT_enc n]
    unfold tens
    rw [List.replicate_succ, List.flatten_cons, List.append_assoc]
    rfl
theorem tens_str (n : Nat) : repS ("10" : Str) n ++ ("0" : Str) = S (tens n) := S_append _ _
theorem tens_inj {n m : Nat} (h : tens n = tens m) : n = m := by
  have := congrArg List.length h
  rw [tens_len, tens_len] at this
  omega
def Tr.hd : Tr → Tr
  | .l => .l
  | .n a _ => a
def Tr.tl : Tr → Tr
  | .l => .l
  | .n _ b => b
theorem drop_head {α : Type} {l r : List α} {c : α} {j : Nat} (h : l.drop j = c :: r) : l[j]? = some c ∧ l.drop (j + 1) = r ∧ j < l.length := by
  have hj : j < l.length := by
    have := congrArg List.length h
    rw [List.length_drop, List.length_cons] at this
    omega
  rw [List.drop_eq_getElem_cons hj] at h
  injection h with h1 h2
  exact ⟨by rw [List.getElem?_eq_getElem hj, h1], h2, hj⟩
theorem end_step {l post : List Nat} {t : Tr} {r : List Tr} {j : Nat} (h : l.drop j = ((t :: r).map Tr.enc).flatten ++ post) :
    j < l.length ∧ ∃ c, l[j]? = some c ∧ ((c = 49 ∧ ∃ a b, l.drop (j + 1) = ((a :: b :: r).map Tr.enc).flatten ++ post) ∨ (c = 48 ∧ l.drop (j + 1) = (r.map Tr.enc).flatten ++ post)) := by
  rw [List.map_cons, List.flatten_cons] at h
  cases t with
  | l =>
    have h' : l.drop j = 48 :: ((r.map Tr.enc).flatten ++ post) := h
    obtain ⟨h1, h2, h3⟩ := drop_head h'
    exact ⟨h3, 48, h1, .inr ⟨rfl, h2⟩⟩
  | n a b =>
    have h' : l.drop j = 49 :: (a.enc ++ b.enc ++ (r.map Tr.enc).flatten ++ post) := h
    obtain ⟨h1, h2, h3⟩ := drop_head h'
    refine ⟨h3, 49, h1, .inl ⟨rfl, a, b, ?_⟩⟩
    rw [h2]
    simp [List.append_assoc]
theorem end_at {l pre t post : List Nat} {j : Nat} (hl : l = pre ++ t ++ post) (h : l.drop j = post) (hj : j ≤ l.length) : j = pre.length + t.length := by
  have h1 := congrArg List.length h
  have h2 := congrArg List.length hl
  rw [List.length_drop] at h1
  rw [List.length_append, List.length_append] at h2
  omega
theorem cut_mid (a b c : List Nat) : cutS (S (a ++ b ++ c)) (some (a.length : Nat)) (some ((a.length + b.length : Nat) : Int)) = S b := by
  rw [S_cut, HT.sIx_nat, HT.sIx_nat, List.length_append, List.length_append, Nat.min_eq_left (by omega), Nat.min_eq_left (by omega), Nat.add_sub_cancel_left, List.append_assoc, List.drop_left, List.take_left]
theorem cut_end (a b : List Nat) : cutS (S (a ++ b)) (some (a.length : Nat)) none = S b := by
  rw [S_cut, HT.sIx_nat, HT.sIx_none, List.length_append, Nat.min_eq_left (by omega), Nat.add_sub_cancel_left, List.drop_left, List.take_length]
theorem cut_start (a b : List Nat) : cutS (S (a ++ b)) none (some (a.length : Nat)) = S a := by
  rw [S_cut, HT.sIx_nat, HT.sIx_none, List.length_append, Nat.min_eq_left (by omega), Nat.sub_zero]
  show S ((a ++ b).take a.length) = S a
  rw [List.take_left]
theorem le_sum {x : Nat} : ∀ {l : List Nat}, x ∈ l → x ≤ l.sum
  | y :: l, h => by
    rw [List.sum_cons]
    rcases List.mem_cons.mp h with h | h
    · omega
    · have := le_sum h
      omega
/-! ### lists of trees -/
def listS (ls : List (List Nat)) : List Nat := (ls.map fun l => 49 :: l).flatten ++ [48]
def listT : List Tr → Tr
  | [] => .l
  | t :: r => .n t (listT r)
theorem listT_enc : ∀ ts : List Tr, (listT ts).enc = listS (ts.map Tr.enc)
  | [] => rfl
  | t :: r => by
    show 49 :: (t.enc ++ (listT r).enc) = _
    rw [listT_enc r]
    unfold listS
    simp
/-- every tree is a list -/
def Tr.items : Tr → List Tr
  | .l => []
  | .n a b => a :: b.items
theorem listT_items : ∀ t : Tr, listT t.items = t
  | .l => rfl
  | .n a b => by
    show Tr.n a (listT b.items) = _
    rw [listT_items b]
theorem items_listT : ∀ ts : List Tr, (listT ts).items = ts
  | [] => rfl
  | t :: r => by
    show t :: (listT r).items = _
    rw [items_listT r]
theorem join_S (ls : List (List Nat)) : Txt.join ("" : Str) (ls.map S) = S ls.flatten := by
  refine TL.ext_tl ?_
  rw [TL.join_eq, TL.tl_join]
  have e : (ls.map S).map TL.tl = ls := by
    rw [List.map_map]
    exact List.map_id _
  rw [e]
  show TL.joinL [] ls = ls.flatten
  have : ∀ ls : List (List Nat), TL.joinL [] ls = ls.flatten := by
    intro ls
    induction ls with
    | nil => rfl
    | cons p r ih =>
      cases r with
      | nil => simp [TL.joinL]
      | cons q r =>
        show p ++ ([] ++ TL.joinL [] (q :: r)) = _
        rw [ih]
        simp
  exact this ls
theorem sum_len (ls : List (List Nat)) : ((ls.map fun l => S (49 :: l)).map (·.length)).sum + 1 = (listS ls).length := by
  unfold listS
  rw [List.length_append, List.length_flatten, List.map_map, List.map_map]
  rfl
theorem take_map {α β : Type} {f : α → β} {ls : List α} {i : Nat} {l : α} (h : ls[i]? = some l) : (ls.take (i + 1)).map f = (ls.take i).map f ++ [f l] := by
  rw [List.take_add_one, h, List.map_append]
  rfl
/-- a for over a text's signs -/
theorem for_str {z : List Nat} {g : TG} {tb : TS} {D : Ends} {σ : L2.St} {H : Hp} (Pv : Nat → L2.St → Hp → Prop) (h0 : Pv 0 σ H)
    (hs : ∀ i c σ H, z[i]? = some c → Pv i σ H → g (.str (S [c])) σ H fun σ2 H2 => tb { D with nx := Pv (i + 1), ct := Pv (i + 1), bk := D.nx } σ2 H2) (hd : ∀ σ H, Pv z.length σ H → D.nx σ H) :
    ∃ W : Nat → Nat → L2.St → Hp → Prop, (∃ m, W 0 m σ H) ∧ ∀ i m σ H, W i m σ H →
      ((Its (S z)).stop i H ∧ D.nx σ H) ∨ ((Its (S z)).go i H ∧ ∃ N : L2.St → Hp → Prop, (∀ σ' H', N σ' H' → ∃ m', m' < m ∧ W (i + 1) m' σ' H') ∧ ∀ x H', (Its (S z)).yld i H x H' → g x σ H' fun σ2 H2 => tb { D with nx := N, ct := N, bk := D.nx } σ2 H2) := by
  refine ⟨fun i m s h => Pv i s h ∧ i ≤ z.length ∧ i + m = z.length, ⟨z.length, h0, Nat.zero_le _, by omega⟩, ?_⟩
  rintro i m s h ⟨p, hi, em⟩
  by_cases hlt : i < z.length
  · refine .inr ⟨show i < (S z).cps.size from hlt, Pv (i + 1), fun s' h' p' => ⟨m - 1, by omega, p', hlt, by omega⟩, ?_⟩
    rintro x h' ⟨rfl, c, hc, rfl⟩
    have hc' : z[i]? = some c := by
      have e : (S z).cps[i]? = z[i]? := List.getElem?_toArray
      rw [← e]
      exact hc
    exact hs i c s _ hc' p
  · have e : i = z.length := by omega
    subst e
    exact .inl ⟨Nat.le_refl _, hd _ _ p⟩
theorem drop_cons {α : Type} {z : List α} {i : Nat} {c : α} (h : z[i]? = some c) : z.drop i = c :: z.drop (i + 1) := by
  obtain ⟨hi, e⟩ := List.getElem?_eq_some_iff.mp h
  rw [List.drop_eq_getElem_cons hi, e]
/-! ### a law's end -/
def spLaw (K : PySem.W.Frag) (_ : Str → Option Value) : Sp := fun vs H Q _ => ∃ (a : Addr) (ns : List Int), vs = [.ref a] ∧ SqL K H a (ns.map V.int) ∧ ns.length ≤ 63 ∧ ∀ H', Q (.bl true) H'
theorem walk_law {l : PySem.W.OpenLaw} {k : Nat} {q : Program} {loose : List Str} {XP : (Str → Option Value) → Heap → Prop} {YP : World → Heap → Prop} {d : DefRec} {K : Params → PySem.W.Frag} (hn : l.most = some 63) (hdf : d.params.defaults = []) (hk : k ≤ 60)
    (hY : ∀ (w : World) (h : Heap), YP w h → (K w.params).In h)
    (F : ∀ (w : World) (mg : Str → Option Value) (fa : Addr) (h : Heap), (K w.params).In h → h.Ns mainGlobals mg → mg d.name = some (.ref fa) →
      ∃ fd : FuncData, (∀ (s : Shared) (u : Value), BindsTo s fd ⟨[u], []⟩ [("_law_script", u)]) ∧ ∀ base : Heap, (K w.params).In base → base.Ns mainGlobals mg → FnOk l.prog w (K w.params) mg base CX0 k fa fd ["_law_script"] (spLaw (K w.params) mg)) :
    PySem.W.WalkO q loose XP YP l.row.toRowW d [] (fun f vs => PySem.call f vs) :=
  L2.walk_of (n := 63) (k := k) (x := "_law_script") (CX := fun _ => CX0) (sp := fun w => fun vs H Q _ => ∃ (a : Addr) (ns : List Int), vs = [.ref a] ∧ SqL (K w.params) H a (ns.map V.int) ∧ ns.length ≤ 63 ∧ ∀ H', Q (.bl true) H') hn (by decide) hdf (Room.mono (show Room 60 callerA from ⟨rfl, by decide, by decide⟩) hk) hY F (fun _ _ a ns hl _ hS => ⟨a, ns, rfl, hS, hl, fun _ => rfl⟩) fun _ _ _ _ _ z => z
end NV

set_option Elab.async false
set_option linter.all false
set_option maxRecDepth 100000
set_option maxHeartbeats 4000000
/-! # data: lists and tuples of texts and ints -/
namespace NV
open PySem PySem.Spec PyProof.Rows L2
open Evl (Ex)
mutual
theorem Dp.mono {K : PySem.W.Frag} {H H' : Hp} (e : Ex H H') : ∀ (d : PyData) {v : V}, Dp K H v d → Dp K H' v d
  | .none, _, h => by cases h; exact .non
  | .bool b, _, h => by cases h; exact .bl b
  | .int i, _, h => by cases h; exact .int i
  | .str x, _, h => by cases h; exact .str x
  | .list ds, _, h => by
    cases h with
    | lst hs ha => exact .lst (Evl.ex_l e hs) (DpAll.mono e ds ha)
  | .tuple ds, _, h => by
    cases h with
    | tup hs ha => exact .tup (Evl.ex_t e hs) (DpAll.mono e ds ha)
  | .dict _, _, h => by cases h
theorem DpAll.mono {K : PySem.W.Frag} {H H' : Hp} (e : Ex H H') : ∀ (ds : List PyData) {vs : List V}, DpAll K H vs ds → DpAll K H' vs ds
  | [], _, h => by cases h; exact .nil
  | d :: ds, _, h => by
    cases h with
    | cons h1 h2 => exact .cons (Dp.mono e d h1) (DpAll.mono e ds h2)
end
/-! no bools, no dicts, good texts -/
mutual
def nb : PyData → Bool
  | .none => true
  | .bool _ => false
  | .int _ => true
  | .str x => x.cps.all (· < 0x110000)
  | .list xs => nbAll xs
  | .tuple xs => nbAll xs
  | .dict _ => false
def nbAll : List PyData → Bool
  | [] => true
  | x :: xs => nb x && nbAll xs
end
mutual
theorem nb_lay : ∀ d : PyData, nb d = true → d.canLay0 = true
  | .none, _ => rfl
  | .bool _, h => by cases h
  | .int _, _ => rfl
  | .str x, h => h
  | .list xs, h => nbAll_lay xs h
  | .tuple xs, h => nbAll_lay xs h
  | .dict _, h => by cases h
theorem nbAll_lay : ∀ ds : List PyData, nbAll ds = true → PyData.canLayAll0 ds = true
  | [], _ => rfl
  | x :: xs, h => by
    have h' : (nb x && nbAll xs) = true := h
    rw [Bool.and_eq_true] at h'
    show (x.canLay0 && PyData.canLayAll0 xs) = true
    rw [nb_lay x h'.1, nbAll_lay xs h'.2]
    rfl
end
mutual
theorem eqv_nb : ∀ d e : PyData, nb d = true → nb e = true → (PyData.eqv d e = true ↔ d = e)
  | .none, e, _, h => by cases e <;> simp [PyData.eqv]
  | .bool _, _, h, _ => by cases h
  | .int i, e, _, h => by cases e <;> first | (simp [PyData.eqv]; done) | (cases h)
  | .str x, e, _, h => by cases e <;> first | (simp [PyData.eqv]; done) | (cases h)
  | .list xs, e, hx, h => by
    cases e with
    | list ys =>
      show PyData.eqvAll xs ys = true ↔ _
      rw [eqvAll_nb xs ys hx h]
      exact ⟨fun q => by rw [q], fun q => PyData.list.inj q⟩
    | bool _ => cases h
    | dict _ => cases h
    | _ => simp [PyData.eqv]
  | .tuple xs, e, hx, h => by
    cases e with
    | tuple ys =>
      show PyData.eqvAll xs ys = true ↔ _
      rw [eqvAll_nb xs ys hx h]
      exact ⟨fun q => by rw [q], fun q => PyData.tuple.inj q⟩
    | bool _ => cases h
    | dict _ => cases h
    | _ => simp [PyData.eqv]
  | .dict _, _, h, _ => by cases h
theorem eqvAll_nb : ∀ xs ys : List PyData, nbAll xs = true → nbAll ys = true → (PyData.eqvAll xs ys = true ↔ xs = ys)
  | [], [], _, _ => by simp [PyData.eqvAll]
  | [], _ :: _, _, _ => by simp [PyData.eqvAll]
  | _ :: _, [], _, _ => by simp [PyData.eqvAll]
  | x :: xs, y :: ys, hx, hy => by
    have hx' : (nb x && nbAll xs) = true := hx
    have hy' : (nb y && nbAll ys) = true := hy
    rw [Bool.and_eq_true] at hx' hy'
    show (PyData.eqv x y && PyData.eqvAll xs ys) = true ↔ _
    rw [Bool.and_eq_true, eqv_nb x y hx'.1 hy'.1, eqvAll_nb xs ys hx'.2 hy'.2]
    exact ⟨fun q => by rw [q.1, q.2], fun q => by injection q with a b; exact ⟨a, b⟩⟩
end
theorem eqv_dec {d e : PyData} {p : Prop} [Decidable p] (hd : nb d = true) (he : nb e = true) (h : d = e ↔ p) : PyData.eqv d e = decide p := by
  have := eqv_nb d e hd he
  by_cases q : p
  · rw [decide_eq_true q, this.mpr (h.mpr q)]
  · rw [decide_eq_false q]
    cases z : PyData.eqv d e with
    | false => rfl
    | true => exact absurd (h.mp (this.mp z)) q
theorem shaped_of {d : PyData} (h : nb d = true) (hd : d.depth ≤ 64) : SeqAt.shaped d = true := by
  show (d.canLay0 && decide (d.depth ≤ 64)) = true
  rw [nb_lay d h, decide_eq_true hd]
  rfl
/-- signs that a text may have -/
def sOk (l : List Nat) : Bool := l.all (· < 0x110000)
theorem nb_S (l : List Nat) : nb (.str (S l)) = sOk l := by
  show (l.toArray.all fun x => decide (x < 0x110000)) = _
  rw [List.all_toArray]
  rfl
theorem sOk_enc : ∀ t : Tr, sOk t.enc = true
  | .l => rfl
  | .n a b => by
    have h1 := sOk_enc a
    have h2 := sOk_enc b
    unfold sOk at *
    show (decide (49 < 0x110000) && (a.enc ++ b.enc).all _) = true
    rw [List.all_append, h1, h2]
    rfl
end NV

set_option Elab.async false
set_option linter.all false
set_option maxRecDepth 100000
set_option maxHeartbeats 4000000
/-! # programs -/
namespace NV
open PySem PySem.Spec PyProof.Rows L2
open Evl (Ex)
/-- what a loop over a list does, its body of any form -/
theorem walk_list {K : PySem.W.Frag} {a : Addr} {xs : List V} {B : V → Hp → (Hp → Prop) → Prop} {Qd : Hp → Prop} {H1 : Hp} (Pv : Nat → Hp → Prop) (h0 : Pv 0 H1) (hl : ∀ i H, i ≤ xs.length → Pv i H → SqL K H a xs)
    (hs : ∀ i x H, xs[i]? = some x → Pv i H → B x H (Pv (i + 1))) (hd : ∀ H, Pv xs.length H → Qd H) :
    ∃ W : Nat → Nat → Hp → Prop, (∃ m, W 0 m H1) ∧ ∀ i m H, W i m H → ((Itl K a).stop i H ∧ Qd H) ∨ ((Itl K a).go i H ∧ ∃ Nx : Hp → Prop, (∀ H', Nx H' → ∃ m', m' < m ∧ W (i + 1) m' H') ∧ ∀ x H', (Itl K a).yld i H x H' → B x H' Nx) := by
  refine ⟨fun i m h => i ≤ xs.length ∧ Pv i h ∧ i + m = xs.length, ⟨xs.length, Nat.zero_le _, h0, by omega⟩, ?_⟩
  rintro i m h ⟨hi, p, em⟩
  have q := hl i h hi p
  by_cases hlt : i < xs.length
  · refine .inr ⟨⟨xs, xs[i], q, List.getElem?_eq_getElem hlt⟩, Pv (i + 1), fun h' p' => ⟨m - 1, by omega, hlt, p', by omega⟩, ?_⟩
    rintro x h' ⟨rfl, y⟩
    exact hs i x _ (y xs q) p
  · have e : i = xs.length := by omega
    subst e
    exact .inl ⟨⟨xs, q, Nat.le_refl _⟩, hd _ p⟩
theorem walk_tup {K : PySem.W.Frag} {a : Addr} {xs : List V} {B : V → Hp → (Hp → Prop) → Prop} {Qd : Hp → Prop} {H1 : Hp} (Pv : Nat → Hp → Prop) (h0 : Pv 0 H1) (hl : ∀ i H, i ≤ xs.length → Pv i H → SqT K H a xs)
    (hs : ∀ i x H, xs[i]? = some x → Pv i H → B x H (Pv (i + 1))) (hd : ∀ H, Pv xs.length H → Qd H) :
    ∃ W : Nat → Nat → Hp → Prop, (∃ m, W 0 m H1) ∧ ∀ i m H, W i m H → ((Itt K a).stop i H ∧ Qd H) ∨ ((Itt K a).go i H ∧ ∃ Nx : Hp → Prop, (∀ H', Nx H' → ∃ m', m' < m ∧ W (i + 1) m' H') ∧ ∀ x H', (Itt K a).yld i H x H' → B x H' Nx) := by
  refine ⟨fun i m h => i ≤ xs.length ∧ Pv i h ∧ i + m = xs.length, ⟨xs.length, Nat.zero_le _, h0, by omega⟩, ?_⟩
  rintro i m h ⟨hi, p, em⟩
  have q := hl i h hi p
  by_cases hlt : i < xs.length
  · refine .inr ⟨⟨xs, xs[i], q, List.getElem?_eq_getElem hlt⟩, Pv (i + 1), fun h' p' => ⟨m - 1, by omega, hlt, p', by omega⟩, ?_⟩
    rintro x h' ⟨rfl, y⟩
    exact hs i x _ (y xs q) p
  · have e : i = xs.length := by omega
    subst e
    exact .inl ⟨⟨xs, q, Nat.le_refl _⟩, hd _ p⟩
/-! ### instructions -/
inductive Row where
  | set (a : Nat) (t : Tr)
  | move (a b : Nat)
  | cons (a b c : Nat)
  | head (a b : Nat)
  | tail (a b : Nat)
  | jump (a : Nat) (n : Int)
  deriving DecidableEq
def Row.word : Row → Str
  | .set _ _ => "set"
  | .move _ _ => "move"
  | .cons _ _ _ => "cons"
  | .head _ _ => "head"
  | .tail _ _ => "tail"
  | .jump _ _ => "jump"
def Row.parts : Row → List V
  | .set a t => [.int a, .str (S t.enc)]
  | .move a b => [.int a, .int b]
  | .cons a b c => [.int a, .int b, .int c]
  | .head a b => [.int a, .int b]
  | .tail a b => [.int a, .int b]
  | .jump a n => [.int a, .int n]
def Row.vs (r : Row) : List V := .str r.word :: r.parts
def Row.regs : Row → List Nat
  | .set a _ => [a]
  | .move a b => [a, b]
  | .cons a b c => [a, b, c]
  | .head a b => [a, b]
  | .tail a b => [a, b]
  | .jump a _ => [a]
def Row.ds : Row → List PyData
  | .set a t => [.str ("set" : Str), .int a, .str (S t.enc)]
  | .move a b => [.str ("move" : Str), .int a, .int b]
  | .cons a b c => [.str ("cons" : Str), .int a, .int b, .int c]
  | .head a b => [.str ("head" : Str), .int a, .int b]
  | .tail a b => [.str ("tail" : Str), .int a, .int b]
  | .jump a n => [.str ("jump" : Str), .int a, .int n]
def Row.d (r : Row) : PyData := .tuple r.ds
/-- the tree of a set -/
def Row.tree : Row → Option Tr
  | .set _ t => some t
  | _ => none
def RowAt (K : PySem.W.Frag) (H : Hp) (v : V) (r : Row) : Prop := ∃ p, v = .ref p ∧ SqT K H p r.vs
abbrev PrgL (K : PySem.W.Frag) (H : Hp) : List V → List Row → Prop := Paired (RowAt K H)
/-- a program stands at a -/
def PrgAt (K : PySem.W.Frag) (H : Hp) (a : Addr) (rows : List Row) : Prop := ∃ xs, SqL K H a xs ∧ PrgL K H xs rows
section
variable {K : PySem.W.Frag} {H H' : Hp}
theorem RowAt.mono (e : Ex H H') {v : V} {r : Row} (h : RowAt K H v r) : RowAt K H' v r := by
  obtain ⟨p, e1, h⟩ := h
  exact ⟨p, e1, Evl.ex_t e h⟩
theorem PrgL.mono (e : Ex H H') {xs : List V} {rows : List Row} (h : PrgL K H xs rows) : PrgL K H' xs rows := Paired.mapP h fun _ _ q => q.mono e
theorem PrgAt.mono (e : Ex H H') {a : Addr} {rows : List Row} (h : PrgAt K H a rows) : PrgAt K H' a rows := by
  obtain ⟨xs, h1, h2⟩ := h
  exact ⟨xs, Evl.ex_l e h1, h2.mono e⟩
theorem paired_get {α β : Type} {F : α → β → Prop} : ∀ {xs : List α} {ys : List β} {i : Nat} {x : α}, Paired F xs ys → xs[i]? = some x → ∃ y, ys[i]? = some y ∧ F x y
  | _, _, _, _, .nil, h => by simp at h
  | _, _, 0, _, .cons h t, e => by simp at e; subst e; exact ⟨_, rfl, h⟩
  | _, _, i + 1, _, .cons h t, e => by simp at e; simpa using paired_get t e
theorem paired_get' {α β : Type} {F : α → β → Prop} : ∀ {xs : List α} {ys : List β} {i : Nat} {y : β}, Paired F xs ys → ys[i]? = some y → ∃ x, xs[i]? = some x ∧ F x y
  | _, _, _, _, .nil, h => by simp at h
  | _, _, 0, _, .cons h t, e => by simp at e; subst e; exact ⟨_, rfl, h⟩
  | _, _, i + 1, _, .cons h t, e => by simp at e; simpa using paired_get' t e
theorem paired_app {α β : Type} {F : α → β → Prop} : ∀ {xs xs' : List α} {ys ys' : List β}, Paired F xs ys → Paired F xs' ys' → Paired F (xs ++ xs') (ys ++ ys')
  | _, _, _, _, .nil, h => h
  | _, _, _, _, .cons h t, h' => .cons h (paired_app t h')
theorem paired_rep {α β : Type} {F : α → β → Prop} {x : α} {y : β} (h : F x y) : ∀ n : Nat, Paired F (List.replicate n x) (List.replicate n y)
  | 0 => .nil
  | n + 1 => .cons h (paired_rep h n)
theorem row_dp {v : V} {r : Row} (h : RowAt K H v r) : Dp K H v r.d := by
  obtain ⟨p, rfl, h⟩ := h
  refine .tup h ?_
  cases r with
  | set a t => exact .cons (.str _) (.cons (.int _) (.cons (.str _) .nil))
  | move a b => exact .cons (.str _) (.cons (.int _) (.cons (.int _) .nil))
  | cons a b c => exact .cons (.str _) (.cons (.int _) (.cons (.int _) (.cons (.int _) .nil)))
  | head a b => exact .cons (.str _) (.cons (.int _) (.cons (.int _) .nil))
  | tail a b => exact .cons (.str _) (.cons (.int _) (.cons (.int _) .nil))
  | jump a n => exact .cons (.str _) (.cons (.int _) (.cons (.int _) .nil))
theorem prg_dpAll : ∀ {xs : List V} {rows : List Row}, PrgL K H xs rows → DpAll K H xs (rows.map Row.d)
  | _, _, .nil => .nil
  | _, _, .cons h t => .cons (row_dp h) (prg_dpAll t)
def prgD (rows : List Row) : PyData := .list (rows.map Row.d)
theorem PrgAt.dp {a : Addr} {rows : List Row} (h : PrgAt K H a rows) : Dp K H (.ref a) (prgD rows) := by
  obtain ⟨xs, h1, h2⟩ := h
  exact .lst h1 (prg_dpAll h2)
end
theorem row_nb (r : Row) : nb r.d = true := by
  have hw : ∀ w : Str, (w.cps.all fun c => decide (c < 0x110000)) = true → nb (.str w) = true := fun _ h => h
  cases r with
  | set a t =>
    show (nb (.str ("set" : Str)) && (nb (.int a) && (nb (.str (S t.enc)) && true))) = true
    rw [hw _ (by decide +kernel), nb_S, sOk_enc]; rfl
  | move a b => show (nb (.str ("move" : Str)) && true) = true; rw [hw _ (by decide +kernel)]; rfl
  | cons a b c => show (nb (.str ("cons" : Str)) && true) = true; rw [hw _ (by decide +kernel)]; rfl
  | head a b => show (nb (.str ("head" : Str)) && true) = true; rw [hw _ (by decide +kernel)]; rfl
  | tail a b => show (nb (.str ("tail" : Str)) && true) = true; rw [hw _ (by decide +kernel)]; rfl
  | jump a n => show (nb (.str ("jump" : Str)) && true) = true; rw [hw _ (by decide +kernel)]; rfl
theorem prg_nb : ∀ rows : List Row, nbAll (rows.map Row.d) = true
  | [] => rfl
  | r :: rs => by
    show (nb r.d && nbAll (rs.map Row.d)) = true
    rw [row_nb, prg_nb rs]
    rfl
theorem row_depth (r : Row) : r.d.depth ≤ 1 := by cases r <;> simp [Row.d, Row.ds, PyData.depth, PyData.depthAll]
theorem prg_depth : ∀ rows : List Row, PyData.depthAll (rows.map Row.d) ≤ 1
  | [] => by simp [PyData.depthAll]
  | r :: rs => by
    have h1 := row_depth r
    have h2 := prg_depth rs
    rw [List.map_cons]
    simp only [PyData.depthAll]
    omega
theorem prgD_depth (rows : List Row) : (prgD rows).depth ≤ 2 := by
  have := prg_depth rows
  simp only [prgD, PyData.depth]
  omega
theorem prgD_nb (rows : List Row) : nb (prgD rows) = true := prg_nb rows
theorem prgD_shaped (rows : List Row) : SeqAt.shaped (prgD rows) = true := shaped_of (prgD_nb rows) (by have := prgD_depth rows; omega)
theorem rowD_inj {r s : Row} (h : r.d = s.d) : r = s := by
  have hw : ∀ {a b : Str}, PyData.str a = PyData.str b → a = b := fun h => PyData.str.inj h
  cases r <;> cases s <;> simp only [Row.d, Row.ds, PyData.tuple.injEq, List.cons.injEq, PyData.str.injEq, PyData.int.injEq, and_true, true_and] at h <;>
    first
    | (obtain ⟨h0, _⟩ := h; exact absurd h0 (by decide +kernel))
    | (obtain ⟨h1, h2⟩ := h; rw [enc_inj1 (S_inj h2)]; congr 1; omega)
    | (obtain ⟨h1, h2, h3⟩ := h; congr 1 <;> omega)
    | (obtain ⟨h1, h2⟩ := h; congr 1 <;> omega)
    | (exact absurd h (by simp))
theorem prgD_inj {p q : List Row} (h : prgD p = prgD q) : p = q := by
  have h' := PyData.list.inj h
  have : ∀ p q : List Row, p.map Row.d = q.map Row.d → p = q := by
    intro p
    induction p with
    | nil => intro q h; cases q with
      | nil => rfl
      | cons _ _ => simp at h
    | cons r rs ih => intro q h; cases q with
      | nil => simp at h
      | cons s ss =>
        simp only [List.map_cons, List.cons.injEq] at h
        rw [rowD_inj h.1, ih ss h.2]
  exact this p q h'
theorem prg_eqv (p q : List Row) : PyData.eqv (prgD p) (prgD q) = decide (p = q) :=
  eqv_dec (prgD_nb p) (prgD_nb q) ⟨prgD_inj, fun h => by rw [h]⟩
/-- all but what stands at D stands -/
def Kp (D : Addr) (H H' : Hp) : Prop := ∀ a o, a ≠ D → H a = some o → H' a = some o
theorem Kp.refl (D : Addr) (H : Hp) : Kp D H H := fun _ _ _ h => h
theorem Kp.trans {D : Addr} {H H1 H2 : Hp} (a : Kp D H H1) (b : Kp D H1 H2) : Kp D H H2 := fun x o h e => b x o h (a x o h e)
theorem Kp.of {D : Addr} {H H' : Hp} (e : Ex H H') : Kp D H H' := fun a o _ h => e a o h
theorem Kp.upd {D : Addr} {H H' : Hp} {o : HO} (k : Kp D H H') : Kp D H (upd H' D o) := fun a u h e => by
  rw [upd_ne h]
  exact k a u h e
theorem Kp.ex {D : Addr} {H H' : Hp} (k : Kp D H H') (n : H D = none) : Ex H H' := fun a o h => k a o (ne_of_none h n) h
theorem Kp.exx {D : Addr} {G H H' : Hp} (e : Ex G H) (k : Kp D H H') (n : G D = none) : Ex G H' := fun a o h => k a o (ne_of_none h n) (e a o h)
theorem Kp.t {K : PySem.W.Frag} {D : Addr} {H H' : Hp} {l : List V} (k : Kp D H H') (hD : H D = some (.lst l)) {a : Addr} {xs : List V} (h : SqT K H a xs) : SqT K H' a xs := by
  rcases h with (h | ⟨o, h⟩) | h
  · exact .inl (.inl (k _ _ (fun e => by rw [e, hD] at h; cases h) h))
  · exact .inl (.inr ⟨o, k _ _ (fun e => by rw [e, hD] at h; cases h) h⟩)
  · exact .inr h
theorem Kp.row {K : PySem.W.Frag} {D : Addr} {H H' : Hp} {l : List V} (k : Kp D H H') (hD : H D = some (.lst l)) {v : V} {r : Row} (h : RowAt K H v r) : RowAt K H' v r := by
  obtain ⟨p, e, h⟩ := h
  exact ⟨p, e, k.t hD h⟩
theorem Kp.prg {K : PySem.W.Frag} {D : Addr} {H H' : Hp} {l : List V} (k : Kp D H H') (hD : H D = some (.lst l)) {xs : List V} {rows : List Row} (h : PrgL K H xs rows) : PrgL K H' xs rows := Paired.mapP h fun _ _ q => k.row hD q
/-! ### good programs -/
/-- the instruction with the index at of a program of so many; registers below w -/
def OkRow (w cnt at_ : Nat) : Row → Prop
  | .jump a n => a < w ∧ 0 ≤ (at_ : Int) + n ∧ (at_ : Int) + n ≤ cnt
  | r => ∀ x ∈ r.regs, x < w
def OkPrg (w : Nat) (rows : List Row) : Prop := ∀ i r, rows[i]? = some r → OkRow w rows.length i r
theorem OkRow.regs {w cnt at_ : Nat} {r : Row} (h : OkRow w cnt at_ r) : ∀ x ∈ r.regs, x < w := by
  cases r with
  | jump a n =>
    intro x hx
    rw [List.mem_singleton.mp hx]
    exact h.1
  | _ => exact h
theorem OkPrg.regs {w : Nat} {rows : List Row} (h : OkPrg w rows) : ∀ r ∈ rows, ∀ x ∈ r.regs, x < w := fun r hr => by
  obtain ⟨i, hi, e⟩ := List.getElem_of_mem hr
  exact (h i r (by rw [List.getElem?_eq_getElem hi, e])).regs
def treesLe (n : Nat) (rows : List Row) : Prop := ∀ r ∈ rows, ∀ t, r.tree = some t → t.pairs ≤ n
/-- 1 more than the greatest register, and at least 1 -/
def regsOf (rows : List Row) : List Nat := (rows.map Row.regs).flatten
def wd (rows : List Row) : Nat := (regsOf rows).foldl (fun m r => max m (r + 1)) 1
theorem regs_le (r : Row) : r.regs.length ≤ 3 := by cases r <;> simp [Row.regs]
theorem regsOf_len (rows : List Row) : (regsOf rows).length ≤ 3 * rows.length := by
  unfold regsOf
  induction rows with
  | nil => exact Nat.zero_le _
  | cons r rs ih =>
    have := regs_le r
    rw [List.map_cons, List.flatten_cons, List.length_append, List.length_cons]
    omega
theorem regsOf_take {rows : List Row} {i : Nat} {r : Row} (h : rows[i]? = some r) : regsOf (rows.take (i + 1)) = regsOf (rows.take i) ++ r.regs := by
  unfold regsOf
  rw [take_map h, List.flatten_append, List.flatten_singleton]
theorem foldl_max_ge : ∀ (l : List Nat) (m : Nat), m ≤ l.foldl (fun m r => max m (r + 1)) m ∧ (∀ r ∈ l, r + 1 ≤ l.foldl (fun m r => max m (r + 1)) m) ∧ (l.foldl (fun m r => max m (r + 1)) m = m ∨ ∃ r ∈ l, l.foldl (fun m r => max m (r + 1)) m = r + 1)
  | [], m => ⟨Nat.le_refl _, fun _ h => by simp at h, .inl rfl⟩
  | x :: l, m => by
    obtain ⟨h1, h2, h3⟩ := foldl_max_ge l (max m (x + 1))
    rw [List.foldl_cons]
    refine ⟨by omega, fun r hr => ?_, ?_⟩
    · rcases List.mem_cons.mp hr with h | h
      · rw [h]; omega
      · exact h2 r h
    · rcases h3 with h3 | ⟨r, hr, h3⟩
      · by_cases hm : x + 1 ≤ m
        · left; rw [h3]; omega
        · right; exact ⟨x, List.mem_cons_self, by rw [h3]; omega⟩
      · right; exact ⟨r, List.mem_cons_of_mem _ hr, h3⟩
def wdF (m : Nat) (l : List Nat) : Nat := l.foldl (fun m r => max m (r + 1)) m
theorem wdF_uniq {l : List Nat} {d : Nat} {m : Int} (h : m ∈ (d : Int) :: l.map (fun (r : Nat) => (r : Int) + 1)) (hg : ∀ y, y ∈ (d : Int) :: l.map (fun (r : Nat) => (r : Int) + 1) → y ≤ m) : m = (wdF d l : Nat) := by
  obtain ⟨h1, h2, h3⟩ := foldl_max_ge l d
  have hw : (wdF d l : Int) ≤ m := by
    rcases h3 with h3 | ⟨r, hr, h3⟩
    · have := hg d List.mem_cons_self
      show ((l.foldl (fun m r => max m (r + 1)) d : Nat) : Int) ≤ m
      omega
    · have := hg ((r : Int) + 1) (List.mem_cons_of_mem _ (List.mem_map.mpr ⟨r, hr, rfl⟩))
      show ((l.foldl (fun m r => max m (r + 1)) d : Nat) : Int) ≤ m
      omega
  have hw2 : m ≤ (wdF d l : Int) := by
    show m ≤ ((l.foldl (fun m r => max m (r + 1)) d : Nat) : Int)
    rcases List.mem_cons.mp h with h | h
    · omega
    · obtain ⟨r, hr, e⟩ := List.mem_map.mp h
      have := h2 r hr
      omega
  omega
theorem wd_uniq {rows : List Row} {m : Int} (h : m ∈ (1 : Int) :: (regsOf rows).map (fun (r : Nat) => 1 + (r : Int))) (hg : ∀ y, y ∈ (1 : Int) :: (regsOf rows).map (fun (r : Nat) => 1 + (r : Int)) → y ≤ m) : m = (wd rows : Nat) := by
  obtain ⟨h1, h2, h3⟩ := foldl_max_ge (regsOf rows) 1
  have hw : (wd rows : Int) ≤ m := by
    rcases h3 with h3 | ⟨r, hr, h3⟩
    · have := hg 1 List.mem_cons_self
      show (((regsOf rows).foldl (fun m r => max m (r + 1)) 1 : Nat) : Int) ≤ m
      omega
    · have := hg (1 + (r : Int)) (List.mem_cons_of_mem _ (List.mem_map.mpr ⟨r, hr, rfl⟩))
      show (((regsOf rows).foldl (fun m r => max m (r + 1)) 1 : Nat) : Int) ≤ m
      omega
  have hw2 : m ≤ (wd rows : Int) := by
    show m ≤ (((regsOf rows).foldl (fun m r => max m (r + 1)) 1 : Nat) : Int)
    rcases List.mem_cons.mp h with h | h
    · omega
    · obtain ⟨r, hr, e⟩ := List.mem_map.mp h
      have := h2 r hr
      omega
  omega
end NV

namespace NV
open PySem PySem.Spec PyProof.Rows L2
open Evl (Ex)
def top (i : Nat) : Stmt := PySem.Challenge.pw_narcissus_k07_width.main.body.getD i (.Pass ⟨0, 0, 0, 0⟩)
abbrev s_programs_registers_of : Stmt := top 1
theorem sc_programs_registers_of : FnScope ["row"] ["row"] (defScope s_programs_registers_of) := ⟨rfl, rfl, rfl, by decide +kernel, rfl, by decide +kernel, by decide +kernel⟩
abbrev s_programs_width : Stmt := top 2
theorem sc_programs_width : FnScope ["program", "row", "part"] ["program"] (defScope s_programs_width) := ⟨rfl, rfl, rfl, by decide +kernel, rfl, by decide +kernel, by decide +kernel⟩
abbrev s_L_draw : Stmt := top 5
theorem sc_L_draw : FnScope ["_law_stream_here", "_law_many", "_law_value"] ["_law_stream_here", "_law_many"] (defScope s_L_draw) := ⟨rfl, rfl, rfl, by decide +kernel, rfl, by decide +kernel, by decide +kernel⟩
abbrev s_L_tree : Stmt := top 6
theorem sc_L_tree : FnScope ["_law_stream_here", "_law_pairs", "_law_signs", "_law_missing"] ["_law_stream_here", "_law_pairs"] (defScope s_L_tree) := ⟨rfl, rfl, rfl, by decide +kernel, rfl, by decide +kernel, by decide +kernel⟩
abbrev s_L_program : Stmt := top 10
theorem sc_L_program : FnScope ["_law_stream_here", "_law_most", "_law_wide", "_law_many", "_law_rows", "_law_at", "_law_word", "_law_a", "_law_b"] ["_law_stream_here", "_law_most", "_law_wide"] (defScope s_L_program) := ⟨rfl, rfl, rfl, by decide +kernel, rfl, by decide +kernel, by decide +kernel⟩
abbrev s_L_stream : Stmt := top 4
theorem sc_L_stream : FnScope ["_law_script", "_law_mixed", "_law_cell"] ["_law_script"] (defScope s_L_stream) := ⟨rfl, rfl, rfl, by decide +kernel, rfl, by decide +kernel, by decide +kernel⟩
abbrev s_L_law : Stmt := top 11
theorem sc_L_law : FnScope ["_law_script", "_law_stream_here", "_law_program_here", "_law_due", "_law_row", "_law_part", "_law_given", "_law_actual"] ["_law_script"] (defScope s_L_law) := ⟨rfl, rfl, rfl, by decide +kernel, rfl, by decide +kernel, by decide +kernel⟩
structure Txt (K : PySem.W.Frag) (mg : Str → Option Value) : Prop where
  n_abs : mg "abs" = none
  n_bool : mg "bool" = none
  n_int : mg "int" = none
  n_isinstance : mg "isinstance" = none
  n_len : mg "len" = none
  n_list : mg "list" = none
  n_max : mg "max" = none
  n_range : mg "range" = none
  f_programs_registers_of : Fn K mg "registers_of" "registers_of" s_programs_registers_of ["row"]
  f_programs_width : Fn K mg "width" "width" s_programs_width ["program"]
  f_L_draw : Fn K mg "_law_draw" "_law_draw" s_L_draw ["_law_stream_here", "_law_many"]
  f_L_tree : Fn K mg "_law_tree" "_law_tree" s_L_tree ["_law_stream_here", "_law_pairs"]
  f_L_program : Fn K mg "_law_program" "_law_program" s_L_program ["_law_stream_here", "_law_most", "_law_wide"]
  f_L_stream : Fn K mg "_law_stream" "_law_stream" s_L_stream ["_law_script"]
theorem txt_mk {K : PySem.W.Frag} {h : Heap} {mg : Str → Option Value} (X : K.In h) (G : h.Ns mainGlobals mg)
    (z1 : PySem.W.nsIn K mainGlobals "abs" = some none)
    (z2 : PySem.W.nsIn K mainGlobals "bool" = some none)
    (z3 : PySem.W.nsIn K mainGlobals "int" = some none)
    (z4 : PySem.W.nsIn K mainGlobals "isinstance" = some none)
    (z5 : PySem.W.nsIn K mainGlobals "len" = some none)
    (z6 : PySem.W.nsIn K mainGlobals "list" = some none)
    (z7 : PySem.W.nsIn K mainGlobals "max" = some none)
    (z8 : PySem.W.nsIn K mainGlobals "range" = some none)
    {f9 : Addr} {od9 an9 : Option Addr} {sl9 : Array (Option Value)} {oc9 kV9 dc9 pm9 cd9 ct9 : Value}
    (a9 : PySem.W.nsIn K mainGlobals "registers_of" = some (some (.ref f9))) (l9 : K.lookup f9 = some ⟨oc9, od9, .func (PySem.W.fnOf "registers_of" "registers_of" (defArgs s_programs_registers_of) (defBody s_programs_registers_of) (defScope s_programs_registers_of) .none kV9 dc9 pm9 an9 cd9 ct9), sl9⟩) (c9 : PySem.W.codeIn K cd9 "registers_of" = true) (k9 : PySem.W.keepIn K (.ref f9) = true)
    {f10 : Addr} {od10 an10 : Option Addr} {sl10 : Array (Option Value)} {oc10 kV10 dc10 pm10 cd10 ct10 : Value}
    (a10 : PySem.W.nsIn K mainGlobals "width" = some (some (.ref f10))) (l10 : K.lookup f10 = some ⟨oc10, od10, .func (PySem.W.fnOf "width" "width" (defArgs s_programs_width) (defBody s_programs_width) (defScope s_programs_width) .none kV10 dc10 pm10 an10 cd10 ct10), sl10⟩) (c10 : PySem.W.codeIn K cd10 "width" = true) (k10 : PySem.W.keepIn K (.ref f10) = true)
    {f11 : Addr} {od11 an11 : Option Addr} {sl11 : Array (Option Value)} {oc11 kV11 dc11 pm11 cd11 ct11 : Value}
    (a11 : PySem.W.nsIn K mainGlobals "_law_draw" = some (some (.ref f11))) (l11 : K.lookup f11 = some ⟨oc11, od11, .func (PySem.W.fnOf "_law_draw" "_law_draw" (defArgs s_L_draw) (defBody s_L_draw) (defScope s_L_draw) .none kV11 dc11 pm11 an11 cd11 ct11), sl11⟩) (c11 : PySem.W.codeIn K cd11 "_law_draw" = true) (k11 : PySem.W.keepIn K (.ref f11) = true)
    {f12 : Addr} {od12 an12 : Option Addr} {sl12 : Array (Option Value)} {oc12 kV12 dc12 pm12 cd12 ct12 : Value}
    (a12 : PySem.W.nsIn K mainGlobals "_law_tree" = some (some (.ref f12))) (l12 : K.lookup f12 = some ⟨oc12, od12, .func (PySem.W.fnOf "_law_tree" "_law_tree" (defArgs s_L_tree) (defBody s_L_tree) (defScope s_L_tree) .none kV12 dc12 pm12 an12 cd12 ct12), sl12⟩) (c12 : PySem.W.codeIn K cd12 "_law_tree" = true) (k12 : PySem.W.keepIn K (.ref f12) = true)
    {f13 : Addr} {od13 an13 : Option Addr} {sl13 : Array (Option Value)} {oc13 kV13 dc13 pm13 cd13 ct13 : Value}
    (a13 : PySem.W.nsIn K mainGlobals "_law_program" = some (some (.ref f13))) (l13 : K.lookup f13 = some ⟨oc13, od13, .func (PySem.W.fnOf "_law_program" "_law_program" (defArgs s_L_program) (defBody s_L_program) (defScope s_L_program) .none kV13 dc13 pm13 an13 cd13 ct13), sl13⟩) (c13 : PySem.W.codeIn K cd13 "_law_program" = true) (k13 : PySem.W.keepIn K (.ref f13) = true)
    {f14 : Addr} {od14 an14 : Option Addr} {sl14 : Array (Option Value)} {oc14 kV14 dc14 pm14 cd14 ct14 : Value}
    (a14 : PySem.W.nsIn K mainGlobals "_law_stream" = some (some (.ref f14))) (l14 : K.lookup f14 = some ⟨oc14, od14, .func (PySem.W.fnOf "_law_stream" "_law_stream" (defArgs s_L_stream) (defBody s_L_stream) (defScope s_L_stream) .none kV14 dc14 pm14 an14 cd14 ct14), sl14⟩) (c14 : PySem.W.codeIn K cd14 "_law_stream" = true) (k14 : PySem.W.keepIn K (.ref f14) = true)
    : Txt K mg :=
  ⟨PySem.W.mg_none_of X G z1,
   PySem.W.mg_none_of X G z2,
   PySem.W.mg_none_of X G z3,
   PySem.W.mg_none_of X G z4,
   PySem.W.mg_none_of X G z5,
   PySem.W.mg_none_of X G z6,
   PySem.W.mg_none_of X G z7,
   PySem.W.mg_none_of X G z8,
   fn_mk X G a9 l9 c9 k9 (fun _ _ _ _ _ _ us hl => match us, hl with | [_], _ => rfl),
   fn_mk X G a10 l10 c10 k10 (fun _ _ _ _ _ _ us hl => match us, hl with | [_], _ => rfl),
   fn_mk X G a11 l11 c11 k11 (fun _ _ _ _ _ _ us hl => match us, hl with | [_, _], _ => rfl),
   fn_mk X G a12 l12 c12 k12 (fun _ _ _ _ _ _ us hl => match us, hl with | [_, _], _ => rfl),
   fn_mk X G a13 l13 c13 k13 (fun _ _ _ _ _ _ us hl => match us, hl with | [_, _, _], _ => rfl),
   fn_mk X G a14 l14 c14 k14 (fun _ _ _ _ _ _ us hl => match us, hl with | [_], _ => rfl)⟩
def sp_programs_registers_of (K : PySem.W.Frag) (_ : Str → Option Value) : Sp := fun vs H Q _ => ∃ (p : Addr) (r : Row), vs = [.ref p] ∧ SqT K H p r.vs ∧ ∀ q H', Ex H H' → SqT K H' q (r.regs.map fun (n : Nat) => V.int (n : Int)) → Q (.ref q) H'

section
variable {P : Program} {w : World} {K : PySem.W.Frag} {mg : Str → Option Value} {base : Heap}
theorem ok_programs_registers_of (T : Txt K mg) : Cal P w K mg base CX0 1 "registers_of" ["row"] (sp_programs_registers_of K mg) := by
  refine T.f_programs_registers_of.ok sc_programs_registers_of (fun vs H Q E h => (by obtain ⟨_, _, rfl, _⟩ := h; rfl)) (fun f cdv A outer s H vs Q E hr h => ⟨_, (pss_cons (ps_if (nCmp (oIn (K := K)) (pe_ix (ixU (K := K)) (nv 0) pe_int (fun _ _ => rfl)) (pe_tup (pa_cons pe_str (pa_cons pe_str pa_nil))) (by rfl)) (pss_one (ps_ret (pe_slice (slU (K := K)) (nv 0) (po_some pe_int) (po_some pe_int)))) pss_nil)
      (pss_one (ps_ret (pe_slice (slU (K := K)) (nv 0) (po_some pe_int) po_none)))), ?_⟩)
  obtain ⟨p, r, rfl, hp, k⟩ := h
  have full : ∀ (t : Addr) (H1 : Hp), Ex H H1 → SqT K H1 p r.vs := fun _ H1 e => Evl.ex_t e hp
  have e0 : HT.sIx r.vs.length 0 (some 1) = 1 := by
    rw [show (1 : Int) = ((1 : Nat) : Int) from rfl, HT.sIx_nat]
    cases r <;> rfl
  refine ⟨_, _, .inr hp, atI_nat (j := 0) rfl, by show 2 ≤ sizeLine; decide, fun t nt => ?_⟩
  have ex := Evl.Ex.new (o := .tup [.str ("set" : Str), .str ("jump" : Str)]) nt
  have hp1 := Evl.ex_t ex hp
  refine ⟨_, .t upd_same, rfl, rfl, ?_⟩
  generalize upd H t (.tup [.str ("set" : Str), .str ("jump" : Str)]) = H1 at ex hp1 ⊢
  refine iteB (fun hb => ?_) (fun hb => ?_)
  · refine ⟨1, rfl, 2, rfl, .inr ⟨p, _, rfl, hp1, fun w => absurd w.1 (by rw [e0]; decide), fun _ q nq => k q _ (ex.trans (Evl.Ex.new nq)) (.of ?_)⟩⟩
    rw [upd_same]
    cases r <;> first | rfl | (simp only [Row.word] at hb; exact absurd hb (by decide +kernel))
  · refine ⟨1, rfl, .inr ⟨p, _, rfl, hp1, fun w => absurd w.1 (by rw [e0]; decide), fun _ q nq => k q _ (ex.trans (Evl.Ex.new nq)) (.of ?_)⟩⟩
    rw [upd_same]
    cases r <;> first | rfl | (simp only [Row.word] at hb; exact absurd hb (by decide +kernel))
end
def sp_programs_width (K : PySem.W.Frag) (_ : Str → Option Value) : Sp := fun vs H Q _ => ∃ (a : Addr) (rows : List Row), vs = [.ref a] ∧ PrgAt K H a rows ∧ rows.length ≤ 100000 ∧ ∀ H', Ex H H' → Q (.int (wd rows : Nat)) H'

section
variable {P : Program} {w : World} {K : PySem.W.Frag} {mg : Str → Option Value} {base : Heap}
theorem ok_programs_width (T : Txt K mg)
    (c_programs_registers_of : Cal P w K mg base CX0 1 "registers_of" ["row"] (sp_programs_registers_of K mg)) : Cal P w K mg base CX0 2 "width" ["program"] (sp_programs_width K mg) := by
  refine T.f_programs_width.ok sc_programs_width (fun vs H Q E h => (by obtain ⟨_, _, rfl, _⟩ := h; rfl)) (fun f cdv A outer s H vs Q E hr h => ⟨_, (pss_one (ps_ret (pe_callB (cr_max rfl) (by rfl) T.n_max PyProof.Rows.boot_max (pa_cons (pe_op (oAdd (K := K)) (pe_lst (pa_cons pe_int pa_nil)) (pe_lc2 (own := [("row", 1), ("part", 2)]) (vs1 := [2]) (g := gName 1) (tt := tYes) (g1 := gName 2) (tt1 := tYes) rfl sc_programs_width.nd (piAny (K := K) (nv 0)) (blkOk_by (own := [("row", 1), ("part", 2)]) (N := ["program", "row", "part"]) (sc := defScope s_programs_width) (by decide +kernel)) (by decide) (fun _ _ _ _ _ => (pg_name (i := 1) sc_programs_width.nd rfl (.inl rfl))) (fun _ _ _ _ _ => pts_nil) (fun _ _ _ _ _ => (piAny (K := K) (nCall c_programs_registers_of (hr.mono (by decide)) pass0 (pa_cons (nv 1) pa_nil)))) (fun _ _ _ _ _ => (pg_name (i := 2) sc_programs_width.nd rfl (.inl rfl))) (fun _ _ _ _ _ => pts_nil) (fun _ _ _ _ _ => (pe_op (oAdd (K := K)) pe_int (nv 2))))) pa_nil)))), ?_⟩)
  obtain ⟨a, rows, rfl, ⟨xs, hS, hP⟩, hlen, k⟩ := h
  have hz : sizeLine = 16777216 := sizeLine_eq
  let f : Nat → V := fun n => V.int (1 + (n : Int))
  refine ⟨by show 1 ≤ sizeLine; decide, fun L nL => ?_⟩
  have e1 := Evl.Ex.new (o := .lst [.int 1]) nL
  have hL : (upd H L (.lst [.int 1])) L = some (.lst [.int 1]) := upd_same
  have hS1 := Evl.ex_l e1 hS
  have hP1 := hP.mono e1
  generalize upd H L (.lst [.int 1]) = H1 at e1 hL hS1 hP1 ⊢
  refine .inl ⟨⟨xs, hS1⟩, fun D nD => walk_list (K := K) (a := a) (xs := xs) (fun i H' => Ex H1 H' ∧ H' D = some (.lst ((regsOf (rows.take i)).map f))) ⟨Evl.Ex.new nD, upd_same⟩ (fun i H' _ e => Evl.ex_l e.1 hS1) ?_ ?_⟩
  · rintro i x H' hx ⟨ex, hD⟩
    obtain ⟨r, hr, p, rfl, hp⟩ := paired_get hP1 hx
    refine ⟨rfl, p, r, rfl, Evl.ex_t ex hp, fun q H2 e2 hq => ?_⟩
    have hD2 := e2 _ _ hD
    have hrl := regsOf_len rows
    have htl : (regsOf (rows.take i)).length ≤ (regsOf rows).length - 0 := by
      have h1 := regsOf_len (rows.take i)
      unfold regsOf
      rw [List.map_take]
      have : ((rows.map Row.regs).take i).flatten.length ≤ (rows.map Row.regs).flatten.length := by
        rw [List.length_flatten, List.length_flatten, List.map_take]
        have : ∀ (l : List Nat) (n : Nat), (l.take n).sum ≤ l.sum := by
          intro l
          induction l with
          | nil => intro n; simp
          | cons x l ih => intro n; cases n with
            | zero => simp
            | succ n => have := ih n; simp only [List.take_succ_cons, List.sum_cons]; omega
        exact this _ _
      omega
    refine .inr ⟨⟨_, hq⟩, walk_tup (K := K) (a := q) (xs := r.regs.map fun (n : Nat) => V.int (n : Int)) (fun j H3 => Kp D H2 H3 ∧ H3 D = some (.lst (((regsOf (rows.take i)) ++ r.regs.take j).map f))) ⟨Kp.refl _ _, by rw [List.take_zero, List.append_nil]; exact hD2⟩ (fun j H3 _ e => e.1.t hD2 hq) ?_ ?_⟩
    · rintro j y H3 hy ⟨kp, hD3⟩
      obtain ⟨n, hn, rfl⟩ := map_get hy
      have h3 := regs_le r
      refine ⟨rfl, _, hD3, ?_, kp.upd, ?_⟩
      · rw [List.length_map, List.length_append, List.length_take]; omega
      · rw [upd_same, List.take_add_one, hn]
        simp only [List.map_append, List.append_assoc]
        rfl
    · rintro H3 ⟨kp, hD3⟩
      rw [List.length_map, List.take_length] at hD3
      refine ⟨Kp.exx (ex.trans e2) kp nD, ?_⟩
      rw [regsOf_take hr]
      exact hD3
  · rintro H2 ⟨ex, hD⟩
    have hl := hP.length
    rw [hl, List.take_length] at hD
    have hrl := regsOf_len rows
    refine .inl ⟨L, D, _, _, rfl, rfl, ex _ _ hL, hD, by rw [List.length_map]; show 1 + _ ≤ _; omega, fun R nR => ?_⟩
    refine ⟨R, (1 : Int) :: (regsOf rows).map (fun (r : Nat) => 1 + (r : Int)), rfl, .of (by rw [upd_same, List.map_cons, List.map_map]; rfl), by rw [List.length_cons]; omega, fun m hm hg => ?_⟩
    rw [wd_uniq hm hg]
    exact k _ (e1.trans (ex.trans (Evl.Ex.new nR)))
end
def sp_L_drawL (K : PySem.W.Frag) (_ : Str → Option Value) : Sp := fun vs H Q _ => ∃ (p q : Addr) (ns : List Int) (a b c m : Int), vs = [.ref p, .int m] ∧ 0 < m ∧ m < 1000000 ∧ p ≠ q ∧ H q = some (.lst (ns.map V.int)) ∧ H p = some (.lst [.ref q, .int a, .int b, .int c]) ∧ 0 ≤ b ∧
  ∀ (v a' b' c' : Int), 0 ≤ v → v < m → 0 ≤ b' → Q (.int v) (upd H p (.lst [.ref q, .int a', .int b', .int c']))
def sp_L_draw (K : PySem.W.Frag) (_ : Str → Option Value) : Sp := fun vs H Q _ => ∃ (p : Addr) (m : Int), vs = [.ref p, .int m] ∧ 0 < m ∧ m < 1000000 ∧ StrmAt H p ∧ ∀ (v : Int), 0 ≤ v → v < m → StrmAt H p → Q (.int v) H

section
variable {P : Program} {w : World} {K : PySem.W.Frag} {mg : Str → Option Value} {base : Heap}
theorem ok_L_draw (T : Txt K mg) : Cal P w K mg base CX0 1 "_law_draw" ["_law_stream_here", "_law_many"] (sp_L_draw K mg) := by
  refine Cal.unseal (sp := sp_L_drawL K mg) (T.f_L_draw.ok sc_L_draw (fun vs H Q E h => (by obtain ⟨_, _, _, _, _, _, _, rfl, _⟩ := h; rfl)) (fun f cdv A outer s H vs Q E hr h => ⟨_, (Evl.pss_cut (ps_if (PW.pt (pw_and (nCmp (oEq (K := K) hr.units) (pe_ix (ixU (K := K)) (nv 0) pe_int (fun _ _ => rfl)) pe_int (nomark _)) (pw_and1 (nCmp oLt (pe_ix (ixU (K := K)) (nv 0) pe_int (fun _ _ => rfl)) (pe_callB (cLen (K := K)) (by rfl) T.n_len PySem.boot_len (pa_cons (pe_ix (ixU (K := K)) (nv 0) pe_int (fun _ _ => rfl)) pa_nil)) (nomark _))))) (pss_cons (ps_asg (pe_callB cAbs (by rfl) T.n_abs PyProof.Rows.boot_abs (pa_cons (pe_callTy cInt (by rfl) T.n_int PyProof.Rows.boot_int (pa_cons (pe_ix (ixU (K := K)) (pe_ix (ixU (K := K)) (nv 0) pe_int (fun _ _ => rfl)) (pe_ix (ixU (K := K)) (nv 0) pe_int (fun _ _ => rfl)) (fun _ _ => rfl)) pa_nil)) pa_nil)) (pg_sub (nv 0) pe_int set_list))
      (pss_one (ps_asg (pe_op (oAdd (K := K)) (pe_ix (ixU (K := K)) (nv 0) pe_int (fun _ _ => rfl)) pe_int) (pg_sub (nv 0) pe_int set_list)))) pss_nil)
      (pss_cons (ps_if (nCmp (oEq (K := K) hr.units) (pe_ix (ixU (K := K)) (nv 0) pe_int (fun _ _ => rfl)) pe_int (nomark _)) (pss_cons (ps_asg (pe_op oMod (pe_callTy cInt (by rfl) T.n_int PyProof.Rows.boot_int (pa_cons (pe_op (oAdd (K := K)) (pe_op (oMul (K := K)) (pe_ix (ixU (K := K)) (nv 0) pe_int (fun _ _ => rfl)) pe_int) pe_int) pa_nil)) pe_int) (pg_sub (nv 0) pe_int set_list))
      (pss_one (ps_ret (pe_op oMod (pe_callTy cInt (by rfl) T.n_int PyProof.Rows.boot_int (pa_cons (pe_op oDiv (pe_ix (ixU (K := K)) (nv 0) pe_int (fun _ _ => rfl)) pe_int) pa_nil)) (nv 1))))) pss_nil)
      (pss_cons (ps_set (i := 2) sc_L_draw.nd rfl (.inl rfl) (pe_op oMod (pe_callTy cInt (by rfl) T.n_int PyProof.Rows.boot_int (pa_cons (pe_ix (ixU (K := K)) (nv 0) pe_int (fun _ _ => rfl)) pa_nil)) (nv 1)))
      (pss_cons (ps_asg (pe_op oDiv (pe_ix (ixU (K := K)) (nv 0) pe_int (fun _ _ => rfl)) (nv 1)) (pg_sub (nv 0) pe_int set_list))
      (pss_one (ps_ret (nv 2))))))), ?_⟩)) (fun vs H Q E h => (by obtain ⟨_, _, rfl, _⟩ := h; rfl)) ?_
  · obtain ⟨p, q, ns, a, b, c, m, rfl, hm, hm2, npq, hq, hp, hb, k⟩ := h
    -- behind the refill: the pool and the place are others
    refine ⟨fun σ' H' => σ' = [some (.ref p), some (.int m), none] ∧ ∃ (a' b' : Int), 0 ≤ b' ∧ H' = upd H p (.lst [.ref q, .int a', .int b', .int c]), ?_, ?_⟩
    · refine ⟨_, _, .l hp, rfl, iteI (fun e1 => ?_) (fun e1 => ⟨rfl, a, b, hb, ?_⟩)⟩
      · refine ⟨_, _, .l hp, rfl, _, _, .l hp, rfl, _, .l hq, iteD (fun e2 => ?_) (fun e2 => ⟨rfl, a, b, hb, ?_⟩)⟩
        · obtain ⟨z, hx⟩ := atI_int hb e2
          refine ⟨_, _, .l hp, rfl, _, _, .l hp, rfl, _, _, .l hq, hx, p, _, 1, 1, rfl, rfl, hp, rfl, ?_⟩
          refine ⟨_, _, .l upd_same, rfl, p, _, 2, 2, rfl, rfl, upd_same, rfl, rfl, _, b + 1, by omega, upd_upd⟩
        · exact (upd_self hp).symm
      · exact (upd_self hp).symm
    · rintro σ' H' ⟨rfl, a', b', hb', rfl⟩
      refine ⟨_, _, .l upd_same, rfl, iteI (fun e1 => ?_) (fun e1 => ?_)⟩
      · refine ⟨_, _, .l upd_same, rfl, .inr ⟨by decide, by decide⟩, by decide, p, _, 3, 3, rfl, rfl, upd_same, rfl, ?_⟩
        refine ⟨_, _, .l upd_same, rfl, ⟨by decide, by decide⟩, hm, ?_⟩
        rw [upd_upd]
        exact k _ _ _ _ (Int.emod_nonneg _ (by omega)) (Int.emod_lt_of_pos _ hm) hb'
      · refine ⟨_, _, .l upd_same, rfl, hm, _, _, .l upd_same, rfl, ⟨hm, by omega⟩, p, _, 1, 1, rfl, rfl, upd_same, rfl, ?_⟩
        rw [upd_upd]
        exact k _ _ _ _ (Int.emod_nonneg _ (by omega)) (Int.emod_lt_of_pos _ hm) hb'
  · rintro vs H Q E ⟨p, m, rfl, hm, hm2, st, k⟩
    refine ⟨p, st, fun q ns a b c hp hq hb => ⟨p, q, ns, a, b, c, m, rfl, hm, hm2, ?_, ?_, upd_same, hb, fun v a' b' c' h0 h1 h2 => ⟨k v h0 h1 st, a', b', c', h2, rfl⟩⟩⟩
    · intro e; rw [e, hq] at hp; cases hp
    · rw [upd_ne (fun e => by rw [e, hp] at hq; cases hq)]; exact hq
end
def sp_L_tree (K : PySem.W.Frag) (_ : Str → Option Value) : Sp := fun vs H Q _ => ∃ (p : Addr) (n : Nat), vs = [.ref p, .int n] ∧ n ≤ 1000 ∧ StrmAt H p ∧ ∀ t : Tr, t.pairs ≤ n → StrmAt H p → Q (.str (S t.enc)) H

section
variable {P : Program} {w : World} {K : PySem.W.Frag} {mg : Str → Option Value} {base : Heap}
theorem ok_L_tree (T : Txt K mg)
    (c_L_draw : Cal P w K mg base CX0 1 "_law_draw" ["_law_stream_here", "_law_many"] (sp_L_draw K mg)) : Cal P w K mg base CX0 2 "_law_tree" ["_law_stream_here", "_law_pairs"] (sp_L_tree K mg) := by
  refine T.f_L_tree.ok sc_L_tree (fun vs H Q E h => (by obtain ⟨_, _, rfl, _⟩ := h; rfl)) (fun f cdv A outer s H vs Q E hr h => ⟨_, (pss_cons (ps_set (i := 2) sc_L_tree.nd rfl (.inl rfl) pe_str)
      (pss_cons (ps_set (i := 3) sc_L_tree.nd rfl (.inl rfl) pe_int)
      (pss_cons (ps_while PassesOwn.never (nCmp oGt (nv 3) pe_int (nomark _)) (pss_one (ps_if (PW.pt (pw_or (PW.pt (pw_and (nCmp oGt (nv 1) pe_int (nomark _)) (pw_and1 (nCmp oLt (nCall c_L_draw (hr.mono (by decide)) pass0 (pa_cons (nv 0) (pa_cons (pe_op (oAdd (K := K)) (nv 3) pe_int) pa_nil))) (nv 3) (nomark _))))) (pw_or1 (PW.pt (pw_and (nCmp oGt (nv 1) pe_int (nomark _)) (pw_and (nCmp (oEq (K := K) hr.units) (nv 3) pe_int (nomark _)) (pw_and1 (nCmp oGt (nCall c_L_draw (hr.mono (by decide)) pass0 (pa_cons (nv 0) (pa_cons pe_int pa_nil))) pe_int (nomark _))))))))) (pss_cons (ps_set (i := 2) sc_L_tree.nd rfl (.inl rfl) (pe_op (oAdd (K := K)) (nv 2) pe_str))
      (pss_cons (ps_set (i := 3) sc_L_tree.nd rfl (.inl rfl) (pe_op (oAdd (K := K)) (nv 3) pe_int))
      (pss_one (ps_set (i := 1) sc_L_tree.nd rfl (.inl rfl) (pe_op oSub (nv 1) pe_int))))) (pss_cons (ps_set (i := 2) sc_L_tree.nd rfl (.inl rfl) (pe_op (oAdd (K := K)) (nv 2) pe_str))
      (pss_one (ps_set (i := 3) sc_L_tree.nd rfl (.inl rfl) (pe_op oSub (nv 3) pe_int)))))))
      (pss_one (ps_ret (nv 2)))))), ?_⟩)
  obtain ⟨p, n, rfl, hn, st, k⟩ := h
  refine ⟨fun m σ' H' => H' = H ∧ ∃ (s : List Nat) (mi pa : Nat), σ' = [some (.ref p), some (.int pa), some (.str (S s)), some (.int mi)] ∧ scan 1 s = some mi ∧ s.length + mi = 2 * (n - pa) + 1 ∧ pa ≤ n ∧ m = 2 * pa + mi, ⟨2 * n + 1, rfl, [], 1, n, rfl, rfl, by simp, Nat.le_refl _, rfl⟩, ?_⟩
  rintro m σ' H' ⟨rfl, s, mi, pa, rfl, hs, hl, hp, rfl⟩
  refine iteD (fun h0 => ?_) (fun h0 => ?_)
  · refine ⟨fun σ2 H2 => H2 = H' ∧ ∃ (s : List Nat) (mi' pa' : Nat), σ2 = [some (.ref p), some (.int pa'), some (.str (S s)), some (.int mi')] ∧ scan 1 s = some mi' ∧ s.length + mi' = 2 * (n - pa') + 1 ∧ pa' ≤ n ∧ 2 * pa' + mi' < 2 * pa + mi, ?_, ?_⟩
    · rintro σ2 H2 ⟨rfl, s', mi', pa', rfl, h1, h2, h3, h4⟩
      exact ⟨2 * pa' + mi', h4, rfl, s', mi', pa', rfl, h1, h2, h3, rfl⟩
    · obtain ⟨j, rfl⟩ : ∃ j, mi = j + 1 := ⟨mi - 1, by omega⟩
      have hz : sizeLine = 16777216 := sizeLine_eq
      -- a pair
      have yes : 0 < pa → ∃ (s' : List Nat) (mi' pa' : Nat), (([some (V.ref p), some (.int pa), some (.str (S s)), some (.int ((j + 1 : Nat) : Int))].set 2 (some (.str (S s ++ ("1" : Str))))).set 3 (some (.int (((j + 1 : Nat) : Int) + 1)))).set 1 (some (.int ((pa : Int) - 1))) = [some (.ref p), some (.int pa'), some (.str (S s')), some (.int mi')] ∧ scan 1 s' = some mi' ∧ s'.length + mi' = 2 * (n - pa') + 1 ∧ pa' ≤ n ∧ 2 * pa' + mi' < 2 * pa + (j + 1) := by
        intro hpa
        refine ⟨s ++ [49], j + 2, pa - 1, ?_, ?_, ?_, by omega, by omega⟩
        · rw [S_app1, show ((j + 1 : Nat) : Int) + 1 = ((j + 2 : Nat) : Int) by omega, show (pa : Int) - 1 = ((pa - 1 : Nat) : Int) by omega]
          rfl
        · rw [scan_append, hs]; rfl
        · rw [List.length_append]; simp only [List.length_cons, List.length_nil]; omega
      have no : ∃ (s' : List Nat) (mi' pa' : Nat), ([some (V.ref p), some (.int pa), some (.str (S s)), some (.int ((j + 1 : Nat) : Int))].set 2 (some (.str (S s ++ ("0" : Str))))).set 3 (some (.int (((j + 1 : Nat) : Int) - 1))) = [some (.ref p), some (.int pa'), some (.str (S s')), some (.int mi')] ∧ scan 1 s' = some mi' ∧ s'.length + mi' = 2 * (n - pa') + 1 ∧ pa' ≤ n ∧ 2 * pa' + mi' < 2 * pa + (j + 1) := by
        refine ⟨s ++ [48], j, pa, ?_, ?_, ?_, by omega, by omega⟩
        · rw [S_app0, show ((j + 1 : Nat) : Int) - 1 = (j : Int) by omega]
          rfl
        · rw [scan_append, hs]; rfl
        · rw [List.length_append]; simp only [List.length_cons, List.length_nil]; omega
      have len1 : (S s).length + (("1" : Str)).length ≤ sizeLine := by
        show s.length + 1 ≤ sizeLine
        omega
      refine iteD (fun hpa => ?_) (fun hpa => ?_)
      · refine ⟨p, _, rfl, by omega, by omega, st, fun v hv0 hv1 _ => iteD (fun hv => ⟨len1, rfl, yes (by omega)⟩) (fun hv => iteD (fun _ => iteI (fun e1 => ⟨p, _, rfl, by decide, by decide, st, fun v hv0 hv1 _ => iteD (fun hv => ⟨len1, rfl, yes (by omega)⟩) (fun hv => ⟨len1, rfl, no⟩)⟩) (fun e1 => ⟨len1, rfl, no⟩)) (fun hq => absurd hpa hq))⟩
      · exact iteD (fun hq => absurd hq hpa) (fun _ => ⟨len1, rfl, no⟩)
  · have e0 : mi = 0 := by omega
    subst e0
    obtain ⟨t, rfl⟩ := scan_tree hs
    refine k t ?_ st
    have := t.enc_len
    omega
end
theorem sw6 (v : V) (hv : v ∈ [V.str ("set" : Str), .str ("move" : Str), .str ("cons" : Str), .str ("head" : Str), .str ("tail" : Str), .str ("jump" : Str), .str ("cons" : Str), .str ("tail" : Str)]) :
    v = .str ("set" : Str) ∨ v = .str ("move" : Str) ∨ v = .str ("cons" : Str) ∨ v = .str ("head" : Str) ∨ v = .str ("tail" : Str) ∨ v = .str ("jump" : Str) := by
  simp only [List.mem_cons, List.not_mem_nil, or_false] at hv
  rcases hv with h | h | h | h | h | h | h | h <;> simp [h]
def sp_L_program (K : PySem.W.Frag) (_ : Str → Option Value) : Sp := fun vs H Q _ => ∃ (p : Addr) (most wide : Nat), vs = [.ref p, .int most, .int wide] ∧ most ≤ 1000 ∧ 1 ≤ wide ∧ wide ≤ 1000 ∧ StrmAt H p ∧
  ∀ (a : Addr) (H' : Hp) (xs : List V) (rows : List Row), Ex H H' → H a = none → H' a = some (.lst xs) → PrgL K H' xs rows → rows.length ≤ most → OkPrg wide rows → treesLe 3 rows → StrmAt H' p → Q (.ref a) H'

section
variable {P : Program} {w : World} {K : PySem.W.Frag} {mg : Str → Option Value} {base : Heap}
theorem ok_L_program (T : Txt K mg)
    (c_L_tree : Cal P w K mg base CX0 2 "_law_tree" ["_law_stream_here", "_law_pairs"] (sp_L_tree K mg))
    (c_L_draw : Cal P w K mg base CX0 1 "_law_draw" ["_law_stream_here", "_law_many"] (sp_L_draw K mg)) : Cal P w K mg base CX0 3 "_law_program" ["_law_stream_here", "_law_most", "_law_wide"] (sp_L_program K mg) := by
  refine T.f_L_program.ok sc_L_program (fun vs H Q E h => (by obtain ⟨_, _, _, rfl, _⟩ := h; rfl)) (fun f cdv A outer s H vs Q E hr h => ⟨_, (pss_cons (ps_set (i := 3) sc_L_program.nd rfl (.inl rfl) (nCall c_L_draw (hr.mono (by decide)) pass0 (pa_cons (nv 0) (pa_cons (pe_op (oAdd (K := K)) (nv 1) pe_int) pa_nil))))
      (pss_cons (ps_set (i := 4) sc_L_program.nd rfl (.inl rfl) (pe_lst pa_nil))
      (pss_cons (ps_for PassesOwn.never rfl (pi_range1 (by rfl) T.n_range (pa_cons (nv 3) pa_nil)) (pg_name (i := 5) sc_L_program.nd rfl (.inl rfl)) (pss_cons (ps_set (i := 6) sc_L_program.nd rfl (.inl rfl) (pe_ix (ixU (K := K)) (pe_lst (pa_cons pe_str (pa_cons pe_str (pa_cons pe_str (pa_cons pe_str (pa_cons pe_str (pa_cons pe_str (pa_cons pe_str (pa_cons pe_str pa_nil))))))))) (nCall c_L_draw (hr.mono (by decide)) pass0 (pa_cons (nv 0) (pa_cons pe_int pa_nil))) (fun _ _ => rfl)))
      (pss_cons (ps_set (i := 7) sc_L_program.nd rfl (.inl rfl) (nCall c_L_draw (hr.mono (by decide)) pass0 (pa_cons (nv 0) (pa_cons (nv 2) pa_nil))))
      (pss_cons (ps_set (i := 8) sc_L_program.nd rfl (.inl rfl) (nCall c_L_draw (hr.mono (by decide)) pass0 (pa_cons (nv 0) (pa_cons (nv 2) pa_nil))))
      (pss_one (ps_if (nCmp (oEq (K := K) hr.units) (nv 6) pe_str (nomark _)) (pss_one (ps_expr (pe_bm PySem.F.plainAttrs_list PySem.F.slot_list_append PySem.F.type_list_append mt_append (nv 4) (pa_cons (pe_tup (pa_cons (nv 6) (pa_cons (nv 7) (pa_cons (nCall c_L_tree (hr.mono (by decide)) pass0 (pa_cons (nv 0) (pa_cons (nCall c_L_draw (hr.mono (by decide)) pass0 (pa_cons (nv 0) (pa_cons pe_int pa_nil))) pa_nil))) pa_nil)))) pa_nil)))) (pss_one (ps_if (nCmp (oEq (K := K) hr.units) (nv 6) pe_str (nomark _)) (pss_one (ps_expr (pe_bm PySem.F.plainAttrs_list PySem.F.slot_list_append PySem.F.type_list_append mt_append (nv 4) (pa_cons (pe_tup (pa_cons (nv 6) (pa_cons (nv 7) (pa_cons (nv 8) (pa_cons (nCall c_L_draw (hr.mono (by decide)) pass0 (pa_cons (nv 0) (pa_cons (nv 2) pa_nil))) pa_nil))))) pa_nil)))) (pss_one (ps_if (nCmp (oEq (K := K) hr.units) (nv 6) pe_str (nomark _)) (pss_one (ps_expr (pe_bm PySem.F.plainAttrs_list PySem.F.slot_list_append PySem.F.type_list_append mt_append (nv 4) (pa_cons (pe_tup (pa_cons (nv 6) (pa_cons (nv 7) (pa_cons (pe_op oSub (nCall c_L_draw (hr.mono (by decide)) pass0 (pa_cons (nv 0) (pa_cons (pe_op (oAdd (K := K)) (nv 3) pe_int) pa_nil))) (nv 5)) pa_nil)))) pa_nil)))) (pss_one (ps_expr (pe_bm PySem.F.plainAttrs_list PySem.F.slot_list_append PySem.F.type_list_append mt_append (nv 4) (pa_cons (pe_tup (pa_cons (nv 6) (pa_cons (nv 7) (pa_cons (nv 8) pa_nil)))) pa_nil))))))))))))))
      (pss_one (ps_ret (nv 4)))))), ?_⟩)
  obtain ⟨p, most, wide, rfl, hm, hw1, hw2, st, k⟩ := h
  have hz : sizeLine = 16777216 := sizeLine_eq
  refine ⟨p, _, rfl, by omega, by omega, st, fun v hv0 hv1 _ => ?_⟩
  obtain ⟨v, rfl⟩ := Int.eq_ofNat_of_zero_le hv0
  refine ⟨by show 0 ≤ sizeLine; decide, fun a na => ?_⟩
  have e0 := Evl.Ex.new (o := .lst []) na
  refine ⟨_, rfl, by omega, by omega, for_range (lo := 0) (n := v) (fun i σ' H' => ∃ (xs : List V) (rows : List Row) (x5 x6 x7 x8 : Option V), σ' = [some (.ref p), some (.int most), some (.int wide), some (.int v), some (.ref a), x5, x6, x7, x8] ∧ Ex H H' ∧ H' a = some (.lst xs) ∧ PrgL K H' xs rows ∧ rows.length = i ∧ (∀ j r, rows[j]? = some r → OkRow wide v j r) ∧ treesLe 3 rows)
    ⟨[], [], none, none, none, none, rfl, e0, upd_same, .nil, rfl, fun j r h => by simp at h, fun r hr => by simp at hr⟩ ?_ ?_⟩
  · rintro i σ' H' hi ⟨xs, rows, x5, x6, x7, x8, rfl, ex, hH, hP, hl, hok, htr⟩
    refine ⟨by show 8 ≤ sizeLine; decide, fun q nq => ?_⟩
    have e1 := Evl.Ex.new (o := .lst [.str ("set" : Str), .str ("move" : Str), .str ("cons" : Str), .str ("head" : Str), .str ("tail" : Str), .str ("jump" : Str), .str ("cons" : Str), .str ("tail" : Str)]) nq
    have hq : (upd H' q (.lst [.str ("set" : Str), .str ("move" : Str), .str ("cons" : Str), .str ("head" : Str), .str ("tail" : Str), .str ("jump" : Str), .str ("cons" : Str), .str ("tail" : Str)])) q = some (.lst [.str ("set" : Str), .str ("move" : Str), .str ("cons" : Str), .str ("head" : Str), .str ("tail" : Str), .str ("jump" : Str), .str ("cons" : Str), .str ("tail" : Str)]) := upd_same
    have ex1 := ex.trans e1
    have hH1 := e1 _ _ hH
    have hP1 := hP.mono e1
    generalize upd H' q (.lst [.str ("set" : Str), .str ("move" : Str), .str ("cons" : Str), .str ("head" : Str), .str ("tail" : Str), .str ("jump" : Str), .str ("cons" : Str), .str ("tail" : Str)]) = H1 at e1 hq ex1 hH1 hP1 ⊢
    have st1 := st.mono ex1
    refine ⟨p, _, rfl, by decide, by decide, st1, fun w hw0 hw1' _ => ?_⟩
    refine mem_ix (P := fun v => v = .str ("set" : Str) ∨ v = .str ("move" : Str) ∨ v = .str ("cons" : Str) ∨ v = .str ("head" : Str) ∨ v = .str ("tail" : Str) ∨ v = .str ("jump" : Str)) (.l hq) hw0 hw1' sw6 (fun w6 hw6 => ?_)
    refine ⟨p, _, rfl, by omega, by omega, st1, fun A hA0 hA1 _ => ?_⟩
    obtain ⟨A, rfl⟩ := Int.eq_ofNat_of_zero_le hA0
    refine ⟨p, _, rfl, by omega, by omega, st1, fun B hB0 hB1 _ => ?_⟩
    obtain ⟨B, rfl⟩ := Int.eq_ofNat_of_zero_le hB0
    have sz : xs.length < sizeLine := by rw [hP.length, hl]; omega
    -- a row more
    have more : ∀ (r : Row) (t : Addr), H1 t = none → OkRow wide v i r → (∀ u, r.tree = some u → u.pairs ≤ 3) → ∃ (xs' : List V) (rows' : List Row),
        upd (upd H1 t (.tup r.vs)) a (.lst (xs ++ [.ref t])) = upd (upd H1 t (.tup r.vs)) a (.lst xs') ∧ Ex H (upd (upd H1 t (.tup r.vs)) a (.lst xs')) ∧ (upd (upd H1 t (.tup r.vs)) a (.lst xs')) a = some (.lst xs') ∧ PrgL K (upd (upd H1 t (.tup r.vs)) a (.lst xs')) xs' rows' ∧ rows'.length = i + 1 ∧ (∀ j r, rows'[j]? = some r → OkRow wide v j r) ∧ treesLe 3 rows' := by
      intro r t nt hr ht
      have nta : t ≠ a := fun e => by rw [e, hH1] at nt; cases nt
      have ext := Evl.Ex.new (o := .tup r.vs) nt
      refine ⟨xs ++ [.ref t], rows ++ [r], rfl, Evl.Ex.mut (ex1.trans ext) na, upd_same, ?_, by rw [List.length_append, hl]; rfl, ?_, ?_⟩
      · have kp : Kp a (upd H1 t (.tup r.vs)) (upd (upd H1 t (.tup r.vs)) a (.lst (xs ++ [.ref t]))) := (Kp.refl _ _).upd
        refine paired_app (kp.prg (ext _ _ hH1) (hP1.mono ext)) (.cons ⟨t, rfl, .of ?_⟩ .nil)
        rw [upd_ne nta, upd_same]
      · intro j s hj
        rw [List.getElem?_append] at hj
        split at hj
        · exact hok j s hj
        · rename_i hge
          rw [hl] at hge hj
          have : j = i := by
            by_cases q : j = i
            · exact q
            · rw [List.getElem?_eq_none (by simp only [List.length_singleton]; omega)] at hj; cases hj
          subst this
          rw [Nat.sub_self] at hj
          cases hj
          exact hr
      · intro s hs u hu
        rcases List.mem_append.mp hs with h | h
        · exact htr s h u hu
        · rw [List.mem_singleton.mp h] at hu
          exact ht u hu
    have two : ∀ x, x ∈ [A, B] → x < wide := fun x hx => by
      simp only [List.mem_cons, List.not_mem_nil, or_false] at hx
      rcases hx with h | h <;> omega
    rcases hw6 with rfl | rfl | rfl | rfl | rfl | rfl
    · refine ⟨.inl ⟨rfl, _, .of hH1⟩, p, _, rfl, by decide, by decide, st1, fun n hn0 hn1 _ => ?_⟩
      obtain ⟨n, rfl⟩ := Int.eq_ofNat_of_zero_le hn0
      refine ⟨p, n, rfl, by omega, st1, fun u hu _ => ⟨by show 3 ≤ sizeLine; decide, fun t nt => ?_⟩⟩
      obtain ⟨xs', rows', h1, h2, h3, h4, h5, h6, h7⟩ := more (.set A u) t nt (fun x hx => two x (by rw [List.mem_singleton.mp hx]; exact List.mem_cons_self)) (fun w hw => by cases hw; omega)
      have nta : a ≠ t := fun e => by rw [← e, hH1] at nt; cases nt
      refine ⟨a, xs, _, rfl, rfl, by rw [upd_ne nta]; exact hH1, sz, xs', rows', _, _, _, _, rfl, ?_⟩
      exact h1 ▸ ⟨h2, h3, h4, h5, h6, h7⟩
    · refine ⟨.inl ⟨rfl, _, .of hH1⟩, by show 3 ≤ sizeLine; decide, fun t nt => ?_⟩
      obtain ⟨xs', rows', h1, h2, h3, h4, h5, h6, h7⟩ := more (.move A B) t nt two (fun w hw => by cases hw)
      have nta : a ≠ t := fun e => by rw [← e, hH1] at nt; cases nt
      refine ⟨a, xs, _, rfl, rfl, by rw [upd_ne nta]; exact hH1, sz, xs', rows', _, _, _, _, rfl, ?_⟩
      exact h1 ▸ ⟨h2, h3, h4, h5, h6, h7⟩
    · refine ⟨.inl ⟨rfl, _, .of hH1⟩, p, _, rfl, by omega, by omega, st1, fun C hC0 hC1 _ => ?_⟩
      obtain ⟨C, rfl⟩ := Int.eq_ofNat_of_zero_le hC0
      refine ⟨by show 4 ≤ sizeLine; decide, fun t nt => ?_⟩
      obtain ⟨xs', rows', h1, h2, h3, h4, h5, h6, h7⟩ := more (.cons A B C) t nt (fun x hx => by
        have hx' : x ∈ [A, B, C] := hx
        simp only [List.mem_cons, List.not_mem_nil, or_false] at hx'
        rcases hx' with h | h | h <;> omega) (fun w hw => by cases hw)
      have nta : a ≠ t := fun e => by rw [← e, hH1] at nt; cases nt
      refine ⟨a, xs, _, rfl, rfl, by rw [upd_ne nta]; exact hH1, sz, xs', rows', _, _, _, _, rfl, ?_⟩
      exact h1 ▸ ⟨h2, h3, h4, h5, h6, h7⟩
    · refine ⟨.inl ⟨rfl, _, .of hH1⟩, by show 3 ≤ sizeLine; decide, fun t nt => ?_⟩
      obtain ⟨xs', rows', h1, h2, h3, h4, h5, h6, h7⟩ := more (.head A B) t nt two (fun w hw => by cases hw)
      have nta : a ≠ t := fun e => by rw [← e, hH1] at nt; cases nt
      refine ⟨a, xs, _, rfl, rfl, by rw [upd_ne nta]; exact hH1, sz, xs', rows', _, _, _, _, rfl, ?_⟩
      exact h1 ▸ ⟨h2, h3, h4, h5, h6, h7⟩
    · refine ⟨.inl ⟨rfl, _, .of hH1⟩, by show 3 ≤ sizeLine; decide, fun t nt => ?_⟩
      obtain ⟨xs', rows', h1, h2, h3, h4, h5, h6, h7⟩ := more (.tail A B) t nt two (fun w hw => by cases hw)
      have nta : a ≠ t := fun e => by rw [← e, hH1] at nt; cases nt
      refine ⟨a, xs, _, rfl, rfl, by rw [upd_ne nta]; exact hH1, sz, xs', rows', _, _, _, _, rfl, ?_⟩
      exact h1 ▸ ⟨h2, h3, h4, h5, h6, h7⟩
    · refine ⟨.inl ⟨rfl, _, .of hH1⟩, p, _, rfl, by omega, by omega, st1, fun C hC0 hC1 _ => ?_⟩
      refine ⟨by show 3 ≤ sizeLine; decide, fun t nt => ?_⟩
      obtain ⟨xs', rows', h1, h2, h3, h4, h5, h6, h7⟩ := more (.jump A (C - (0 + (i : Int)))) t nt ⟨by omega, by omega, by omega⟩ (fun w hw => by cases hw)
      have nta : a ≠ t := fun e => by rw [← e, hH1] at nt; cases nt
      refine ⟨a, xs, _, rfl, rfl, by rw [upd_ne nta]; exact hH1, sz, xs', rows', _, _, _, _, rfl, ?_⟩
      exact h1 ▸ ⟨h2, h3, h4, h5, h6, h7⟩
  · rintro σ' H' ⟨xs, rows, x5, x6, x7, x8, rfl, ex, hH, hP, hl, hok, htr⟩
    exact k a H' xs rows ex na hH hP (by omega) (fun i r h => hl ▸ hok i r h) htr (st.mono ex)
end
def sp_L_streamL (K : PySem.W.Frag) (_ : Str → Option Value) : Sp := fun vs H Q _ => ∃ (a : Addr) (ns : List Int), vs = [.ref a] ∧ SqL K H a (ns.map V.int) ∧
  ∀ (p q : Addr) (H' : Hp) (c : Int), Ex H H' → H p = none → p ≠ q → H' q = some (.lst (ns.map V.int)) → H' p = some (.lst [.ref q, .int 0, .int 0, .int c]) → Q (.ref p) H'
def sp_L_stream (K : PySem.W.Frag) (_ : Str → Option Value) : Sp := fun vs H Q _ => ∃ (a : Addr) (ns : List Int), vs = [.ref a] ∧ SqL K H a (ns.map V.int) ∧
  ∀ (p : Addr) (H' : Hp), Ex H H' → StrmAt H' p → Q (.ref p) H'

section
variable {P : Program} {w : World} {K : PySem.W.Frag} {mg : Str → Option Value} {base : Heap}
theorem ok_L_stream (T : Txt K mg) : Cal P w K mg base CX0 1 "_law_stream" ["_law_script"] (sp_L_stream K mg) := by
  refine Cal.seal (sp := sp_L_streamL K mg) (T.f_L_stream.ok sc_L_stream (fun vs H Q E h => (by obtain ⟨_, _, rfl, _⟩ := h; rfl)) (fun f cdv A outer s H vs Q E hr h => ⟨_, (pss_cons (ps_set (i := 1) sc_L_stream.nd rfl (.inl rfl) pe_int)
      (pss_cons (ps_for PassesOwn.never rfl (piAny (K := K) (nv 0)) (pg_name (i := 2) sc_L_stream.nd rfl (.inl rfl)) (pss_one (ps_set (i := 1) sc_L_stream.nd rfl (.inl rfl) (pe_op oMod (pe_callTy cInt (by rfl) T.n_int PyProof.Rows.boot_int (pa_cons (pe_op (oAdd (K := K)) (pe_op (oAdd (K := K)) (pe_op (oMul (K := K)) (nv 1) pe_int) (pe_op oMod (pe_callTy cInt (by rfl) T.n_int PyProof.Rows.boot_int (pa_cons (nv 2) pa_nil)) pe_int)) pe_int) pa_nil)) pe_int))))
      (pss_one (ps_ret (pe_lst (pa_cons (pe_callTy (cList (K := K)) (by rfl) T.n_list PyProof.Rows.boot_list (pa_cons (nv 0) pa_nil)) (pa_cons pe_int (pa_cons pe_int (pa_cons (nv 1) pa_nil))))))))), ?_⟩)) ?_
  · obtain ⟨a, ns, rfl, hS, k⟩ := h
    refine .inl ⟨⟨_, hS⟩, for_list (K := K) (a := a) (xs := ns.map V.int) (fun i σ H' => H' = H ∧ ∃ (c : Int) (v : Option V), σ = [some (.ref a), some (.int c), v]) ⟨rfl, 17, none, rfl⟩ (fun i σ H' _ e => by rw [e.1]; exact hS) ?_ ?_⟩
    · rintro i x σ H' hi ⟨rfl, c, v, rfl⟩
      obtain ⟨z, rfl⟩ : ∃ z, x = V.int z := by
        rw [List.getElem?_map] at hi
        cases e : ns[i]? with
        | none => rw [e] at hi; cases hi
        | some u => rw [e] at hi; exact ⟨u, (Option.some.inj hi).symm⟩
      refine ⟨.inr ⟨by decide, by decide⟩, by decide, by decide, rfl, _, _, rfl⟩
    · rintro σ H' ⟨rfl, c, v, rfl⟩
      refine ⟨_, .inl hS, fun q nq => ⟨by show 4 ≤ sizeLine; decide, fun p np => ?_⟩⟩
      have npq : p ≠ q := fun e => by rw [e, upd_same] at np; cases np
      have np' : H' p = none := by rw [upd_ne npq] at np; exact np
      exact k p q _ c ((Evl.Ex.new nq).trans (Evl.Ex.new np)) np' npq (by rw [upd_ne npq.symm, upd_same]) upd_same
  · rintro vs H Q E ⟨a, ns, rfl, hS, k⟩
    refine ⟨a, ns, rfl, hS, fun p q H' c e np npq hq hp => ⟨p, q, 0, 0, c, hp, by decide, k p _ (e.mut np) ⟨q, ns, upd_same, by rw [upd_ne npq.symm]; exact hq⟩⟩⟩
end
theorem wd_take {rows : List Row} {i : Nat} {r : Row} (h : rows[i]? = some r) : wd (rows.take (i + 1)) = wdF (wd (rows.take i)) r.regs := by
  unfold wd wdF
  rw [regsOf_take h, List.foldl_append]

section
variable {P : Program} {w : World} {K : PySem.W.Frag} {mg : Str → Option Value} {base : Heap}
theorem ok_L_law {f : Addr} {fd : FuncData} (T : Txt K mg) (F : Fun K "law" "law" s_L_law f fd)
    (c_programs_width : Cal P w K mg base CX0 2 "width" ["program"] (sp_programs_width K mg))
    (c_L_draw : Cal P w K mg base CX0 1 "_law_draw" ["_law_stream_here", "_law_many"] (sp_L_draw K mg))
    (c_L_program : Cal P w K mg base CX0 3 "_law_program" ["_law_stream_here", "_law_most", "_law_wide"] (sp_L_program K mg))
    (c_L_stream : Cal P w K mg base CX0 1 "_law_stream" ["_law_script"] (sp_L_stream K mg)) : FnOk P w K mg base CX0 4 f fd ["_law_script"] (spLaw K mg) := by
  refine F.ok sc_L_law (fun vs H Q E h => (by obtain ⟨_, _, rfl, _⟩ := h; rfl)) (fun cdv A outer s H vs Q E hr h => ⟨_, (pss_cons (ps_set (i := 1) sc_L_law.nd rfl (.inl rfl) (nCall c_L_stream (hr.mono (by decide)) pass0 (pa_cons (nv 0) pa_nil)))
      (pss_cons (ps_set (i := 2) sc_L_law.nd rfl (.inl rfl) (nCall c_L_program (hr.mono (by decide)) pass0 (pa_cons (nv 1) (pa_cons pe_int (pa_cons (pe_op (oAdd (K := K)) pe_int (nCall c_L_draw (hr.mono (by decide)) pass0 (pa_cons (nv 1) (pa_cons pe_int pa_nil)))) pa_nil)))))
      (Evl.pss_cut (ps_if (nCmp (oEq (K := K) hr.units) (nCall c_L_draw (hr.mono (by decide)) pass0 (pa_cons (nv 1) (pa_cons pe_int pa_nil))) pe_int (nomark _)) (pss_one (ps_set (i := 2) sc_L_law.nd rfl (.inl rfl) (pe_op (oAdd (K := K)) (pe_op (oMul (K := K)) (pe_lst (pa_cons (pe_tup (pa_cons pe_str (pa_cons pe_int (pa_cons pe_int pa_nil)))) pa_nil)) (nCall c_L_draw (hr.mono (by decide)) pass0 (pa_cons (nv 1) (pa_cons pe_int pa_nil)))) (nv 2)))) pss_nil)
      (pss_cons (ps_set (i := 3) sc_L_law.nd rfl (.inl rfl) pe_int)
      (pss_cons (ps_for PassesOwn.never rfl (piAny (K := K) (nv 2)) (pg_name (i := 4) sc_L_law.nd rfl (.inl rfl)) (pss_cons (ps_set (i := 3) sc_L_law.nd rfl (.inl rfl) (pe_callB (call_max2 rfl) (by rfl) T.n_max PyProof.Rows.boot_max (pa_cons (nv 3) (pa_cons (pe_op (oAdd (K := K)) (pe_ix (ixU (K := K)) (nv 4) pe_int (fun _ _ => rfl)) pe_int) pa_nil))))
      (pss_one (ps_if (nCmp (oNotIn (K := K)) (pe_ix (ixU (K := K)) (nv 4) pe_int (fun _ _ => rfl)) (pe_tup (pa_cons pe_str (pa_cons pe_str pa_nil))) (by rfl)) (pss_one (ps_set (i := 3) sc_L_law.nd rfl (.inl rfl) (pe_callB (cr_max rfl) (by rfl) T.n_max PyProof.Rows.boot_max (pa_cons (pe_op (oAdd (K := K)) (pe_lst (pa_cons (nv 3) pa_nil)) (pe_lc (own := [("_law_part", 5)]) (g := gName 5) (tt := tYes) rfl sc_L_law.nd (piAny (K := K) (pe_slice (slU (K := K)) (nv 4) (po_some pe_int) po_none)) (blkOk_by (own := [("_law_part", 5)]) (N := ["_law_script", "_law_stream_here", "_law_program_here", "_law_due", "_law_row", "_law_part", "_law_given", "_law_actual"]) (sc := defScope s_L_law) (by decide +kernel)) (fun _ _ _ _ _ => (pg_name (i := 5) sc_L_law.nd rfl (.inl rfl))) (fun _ _ _ _ _ => pts_nil) (fun _ _ _ _ _ => (pe_op (oAdd (K := K)) (nv 5) pe_int)))) pa_nil)))) pss_nil))))
      (pss_cons (ps_set (i := 6) sc_L_law.nd rfl (.inl rfl) (pe_callTy (cList (K := K)) (by rfl) T.n_list PyProof.Rows.boot_list (pa_cons (nv 2) pa_nil)))
      (pss_cons (ps_set (i := 7) sc_L_law.nd rfl (.inl rfl) (nCall c_programs_width (hr.mono (by decide)) pass0 (pa_cons (nv 6) pa_nil)))
      (pss_one (ps_ret (pe_and (pe_cmpR (oEq (K := K) hr.units) (nv 6) (nv 2) (nomark _)) (pe_and (pe_cmpR (oEq (K := K) hr.units) (nv 7) (nv 3) (nomark _)) (pe_and (pe_not (pe_callB (cIsi (K := K)) (by rfl) T.n_isinstance PyProof.Rows.boot_isinstance (pa_cons (nv 7) (pa_cons (nTy T.n_bool PyProof.Rows.boot_bool) pa_nil)))) (pe_one (pe_cmpR (oEq (K := K) hr.units) (nCall c_programs_width (hr.mono (by decide)) pass0 (pa_cons (pe_lst pa_nil) pa_nil)) pe_int (nomark _))))))))))))))), ?_⟩)
  obtain ⟨a, ns, rfl, hS, hlen, k⟩ := h
  have hz : sizeLine = 16777216 := sizeLine_eq
  refine ⟨a, ns, rfl, hS, fun s H1 e1 st => ?_⟩
  refine ⟨s, _, rfl, by decide, by decide, st, fun v hv0 hv1 _ => ?_⟩
  obtain ⟨v, rfl⟩ := Int.eq_ofNat_of_zero_le hv0
  refine ⟨s, 10, v + 1, by rw [Int.natCast_add, Int.add_comm]; rfl, by decide, by omega, by omega, st, fun P H2 xs rows e2 nP hP hL hl hok htr st2 => ?_⟩
  have hz0 : rows.length ≤ 10 := hl
  refine ⟨fun σ' H' => ∃ (P : Addr) (xs : List V) (rows : List Row), σ' = [some (.ref a), some (.ref s), some (.ref P), none, none, none, none, none] ∧ H' P = some (.lst xs) ∧ PrgL K H' xs rows ∧ rows.length ≤ 100, ?_, ?_⟩
  · refine ⟨s, _, rfl, by decide, by decide, st2, fun d hd0 hd1 _ => iteI (fun _ => ?_) (fun _ => ⟨P, xs, rows, rfl, hP, hL, by omega⟩)⟩
    refine ⟨by show 3 ≤ sizeLine; decide, fun t nt => ⟨by show 1 ≤ sizeLine; decide, fun q nq => ?_⟩⟩
    have x1 := Evl.Ex.new (o := .tup (Row.head 0 0).vs) nt
    have x2 := Evl.Ex.new (o := .lst [.ref t]) nq
    refine ⟨s, _, rfl, by decide, by decide, st2.mono (x1.trans x2), fun g hg0 hg1 _ => ?_⟩
    obtain ⟨g, rfl⟩ := Int.eq_ofNat_of_zero_le hg0
    refine .inl ⟨q, (g : Int), [.ref t], rfl, rfl, upd_same, by omega, by omega, by rw [List.length_singleton, Int.toNat_natCast]; omega, fun L nL => ?_⟩
    have x3 := Evl.Ex.new (o := .lst (List.replicate (g : Int).toNat [V.ref t]).flatten) nL
    have nPL : P ≠ L := fun e => by rw [← e, x2 _ _ (x1 _ _ hP)] at nL; cases nL
    refine .inl ⟨L, P, _, xs, rfl, rfl, upd_same, x3 _ _ (x2 _ _ (x1 _ _ hP)), ?_, fun M nM => ?_⟩
    · have hxl := hL.length
      rw [Int.toNat_natCast, flat_rep]
      rw [List.length_replicate]
      omega
    · have x4 := Evl.Ex.new (o := .lst ((List.replicate (g : Int).toNat [V.ref t]).flatten ++ xs)) nM
      refine ⟨M, _, List.replicate g (Row.head 0 0) ++ rows, rfl, upd_same, ?_, by rw [List.length_append, List.length_replicate]; omega⟩
      have hh := (x2.trans (x3.trans x4)) _ _ (upd_same (H := H2) (a := t) (o := .tup (Row.head 0 0).vs))
      have pr : ∀ F : V → Row → Prop, F (.ref t) (Row.head 0 0) → Paired F (List.replicate (g : Int).toNat [V.ref t]).flatten (List.replicate g (Row.head 0 0)) := fun F h => by
        rw [Int.toNat_natCast, flat_rep]
        exact paired_rep h g
      exact paired_app (pr _ ⟨t, rfl, .of hh⟩) (hL.mono (x1.trans (x2.trans (x3.trans x4))))
  clear hz0 hl hok htr hP hL nP
  rintro σ' H3 ⟨P, xs, rows, rfl, hP, hL, hl⟩
  have hxl := hL.length
  refine .inl ⟨⟨_, .of hP⟩, for_list (K := K) (a := P) (xs := xs) (fun i σ' H' => Ex H3 H' ∧ ∃ x4 x5 : Option V, σ' = [some (.ref a), some (.ref s), some (.ref P), some (.int (wd (rows.take i) : Nat)), x4, x5, none, none]) ⟨Ex.refl _, none, none, rfl⟩ (fun i σ' H' _ e => .of (e.1 _ _ hP)) ?_ ?_⟩
  · rintro i x σ' H' hx ⟨ex, x4, x5, rfl⟩
    obtain ⟨r, hr, p, rfl, hp⟩ := paired_get hL hx
    have hp1 := Evl.ex_t ex hp
    rw [wd_take hr]
    obtain ⟨r0, rest, hre, h1⟩ : ∃ (r0 : Nat) (rest : List Nat), r.regs = r0 :: rest ∧ r.vs[1]? = some (.int r0) := by cases r <;> exact ⟨_, _, rfl, rfl⟩
    refine ⟨_, _, .inr hp1, atI_nat (j := 1) h1, _, _, rfl, ?_⟩
    have emax : (if (r0 : Int) + 1 > ((wd (rows.take i) : Nat) : Int) then (r0 : Int) + 1 else ((wd (rows.take i) : Nat) : Int)) = ((max (wd (rows.take i)) (r0 + 1) : Nat) : Int) := by
      split <;> omega
    rw [emax]
    refine ⟨_, _, .inr hp1, atI_nat (j := 0) rfl, by show 2 ≤ sizeLine; decide, fun t nt => ⟨_, .t upd_same, rfl, rfl, ?_⟩⟩
    have y1 := Evl.Ex.new (o := .tup [.str ("set" : Str), .str ("jump" : Str)]) nt
    have hp2 := Evl.ex_t y1 hp1
    generalize upd H' t (.tup [.str ("set" : Str), .str ("jump" : Str)]) = H4 at y1 hp2 ⊢
    refine iteB (fun hb => ?_) (fun hb => ?_)
    · have hb' : (!inV (.str r.word) [.str ("set" : Str), .str ("jump" : Str)]) = true := hb
      have hd : r.vs.drop 2 = rest.map (fun (n : Nat) => V.int (n : Int)) := by
        cases r with
        | set _ _ => simp only [Row.word] at hb'; exact absurd hb' (by decide +kernel)
        | jump _ _ => simp only [Row.word] at hb'; exact absurd hb' (by decide +kernel)
        | move _ _ => injection hre with _ h; subst h; rfl
        | cons _ _ _ => injection hre with _ h; subst h; rfl
        | head _ _ => injection hre with _ h; subst h; rfl
        | tail _ _ => injection hre with _ h; subst h; rfl
      have hrl : rest.length ≤ 2 := by
        have := regs_le r
        rw [hre, List.length_cons] at this
        omega
      have e0 : HT.sIx r.vs.length 0 (some 2) = 2 := by
        rw [show (2 : Int) = ((2 : Nat) : Int) from rfl, HT.sIx_nat]
        cases r <;> rfl
      have ec : cutV r.vs (some 2) none = rest.map (fun (n : Nat) => V.int (n : Int)) := by
        unfold cutV
        rw [e0, HT.sIx_none, ← hd, ← List.length_drop, List.take_length]
      refine ⟨by show 1 ≤ sizeLine; decide, fun L nL => ⟨2, rfl, .inr ⟨p, _, rfl, Evl.ex_t (Evl.Ex.new nL) hp2, fun w => absurd w.1 (by rw [e0]; decide), fun _ q nq => ?_⟩⟩⟩
      rw [ec]
      have y2 := Evl.Ex.new (o := .lst [.int ((max (wd (rows.take i)) (r0 + 1) : Nat) : Int)]) nL
      have y3 := Evl.Ex.new (o := .tup (rest.map (fun (n : Nat) => V.int (n : Int)))) nq
      have hL5 := y3 _ _ (upd_same (H := H4) (a := L) (o := .lst [.int ((max (wd (rows.take i)) (r0 + 1) : Nat) : Int)]))
      have hq5 : (upd (upd H4 L (.lst [.int ((max (wd (rows.take i)) (r0 + 1) : Nat) : Int)])) q (.tup (rest.map (fun (n : Nat) => V.int (n : Int))))) q = some (.tup (rest.map (fun (n : Nat) => V.int (n : Int)))) := upd_same
      generalize upd (upd H4 L (.lst [.int ((max (wd (rows.take i)) (r0 + 1) : Nat) : Int)])) q (.tup (rest.map (fun (n : Nat) => V.int (n : Int)))) = H5 at y3 hL5 hq5 ⊢
      refine .inr ⟨⟨_, .of hq5⟩, fun D nD => lc_tup (K := K) (a := q) (xs := rest.map (fun (n : Nat) => V.int (n : Int))) (fun j H6 => H6 = upd H5 D (.lst ((rest.take j).map fun (n : Nat) => V.int ((n : Int) + 1)))) rfl (fun j H6 _ e => by rw [e]; exact .of ((Evl.Ex.new nD) _ _ hq5)) ?_ ?_⟩
      · rintro j y H6 hy rfl
        obtain ⟨n, hn, rfl⟩ := map_get hy
        refine ⟨rfl, _, upd_same, by rw [List.length_map, List.length_take]; omega, ?_⟩
        rw [upd_upd, take_map hn]
      · rintro H6 rfl
        rw [List.length_map, List.take_length]
        have y4 := Evl.Ex.new (o := .lst (rest.map fun (n : Nat) => V.int ((n : Int) + 1))) nD
        refine .inl ⟨L, D, _, _, rfl, rfl, y4 _ _ hL5, upd_same, by rw [List.length_map]; show 1 + _ ≤ _; omega, fun M nM => ?_⟩
        refine ⟨M, ((max (wd (rows.take i)) (r0 + 1) : Nat) : Int) :: rest.map (fun (n : Nat) => (n : Int) + 1), rfl, .of (by rw [upd_same, List.map_cons, List.map_map]; rfl), by rw [List.length_cons]; omega, fun m hm hg => ?_⟩
        refine ⟨ex.trans (y1.trans (y2.trans (y3.trans (y4.trans (Evl.Ex.new nM))))), some (.ref p), x5, ?_⟩
        rw [wdF_uniq hm hg, hre]
        rfl
    · have hb' : (!inV (.str r.word) [.str ("set" : Str), .str ("jump" : Str)]) = false := hb
      have hrest : rest = [] := by
        cases r with
        | set _ _ => injection hre with _ h; exact h.symm
        | jump _ _ => injection hre with _ h; exact h.symm
        | move _ _ => simp only [Row.word] at hb'; exact absurd hb' (by decide +kernel)
        | cons _ _ _ => simp only [Row.word] at hb'; exact absurd hb' (by decide +kernel)
        | head _ _ => simp only [Row.word] at hb'; exact absurd hb' (by decide +kernel)
        | tail _ _ => simp only [Row.word] at hb'; exact absurd hb' (by decide +kernel)
      refine ⟨ex.trans y1, some (.ref p), x5, ?_⟩
      rw [hre, hrest]
      rfl
  · rintro σ' H4 ⟨ex, x4, x5, rfl⟩
    rw [hxl, List.take_length]
    refine ⟨_, .l (ex _ _ hP), fun G nG => ?_⟩
    have y1 := Evl.Ex.new (o := .lst xs) nG
    have hG : PrgAt K (upd H4 G (.lst xs)) G rows := ⟨xs, .of upd_same, hL.mono (ex.trans y1)⟩
    have hPP : PrgAt K (upd H4 G (.lst xs)) P rows := ⟨xs, .of (y1 _ _ (ex _ _ hP)), hL.mono (ex.trans y1)⟩
    generalize upd H4 G (.lst xs) = H5 at y1 hG hPP ⊢
    refine ⟨G, rows, rfl, hG, by omega, fun H6 y2 => ?_⟩
    refine ⟨prgD rows, prgD rows, (hG.mono y2).dp, (hPP.mono y2).dp, prgD_shaped _, prgD_shaped _, ?_⟩
    rw [prg_eqv]
    refine ⟨_, rfl, iteD (fun _ => ?_) (fun q => absurd rfl q)⟩
    refine ⟨_, rfl, iteD (fun _ => ?_) (fun q => absurd rfl q)⟩
    refine ⟨false, rfl, false, rfl, true, rfl, iteT ?_⟩
    refine ⟨by show 0 ≤ sizeLine; decide, fun E0 nE => ⟨E0, [], rfl, ⟨[], .of upd_same, .nil⟩, by decide, fun H7 y3 => ?_⟩⟩
    exact okB rfl (k _)
end
theorem all_ok {P : Program} {w : World} {K : PySem.W.Frag} {mg : Str → Option Value} {base : Heap} {f : Addr} {fd : FuncData} (T : Txt K mg) (F : Fun K "law" "law" s_L_law f fd) : FnOk P w K mg base CX0 4 f fd ["_law_script"] (spLaw K mg) := by
  have c_programs_registers_of := ok_programs_registers_of (P := P) (w := w) (base := base) T 
  have c_programs_width := ok_programs_width (P := P) (w := w) (base := base) T c_programs_registers_of
  have c_L_draw := ok_L_draw (P := P) (w := w) (base := base) T 
  have c_L_tree := ok_L_tree (P := P) (w := w) (base := base) T c_L_draw
  have c_L_program := ok_L_program (P := P) (w := w) (base := base) T c_L_tree c_L_draw
  have c_L_stream := ok_L_stream (P := P) (w := w) (base := base) T 
  exact ok_L_law T F c_programs_width c_L_draw c_L_program c_L_stream
theorem fin_mk {P : Program} {w : World} {K : PySem.W.Frag} {h : Heap} {mg : Str → Option Value} {fa : Addr} (X : K.In h) (G : h.Ns mainGlobals mg) (hfa : mg "law" = some (.ref fa))
    (z1 : PySem.W.nsIn K mainGlobals "abs" = some none)
    (z2 : PySem.W.nsIn K mainGlobals "bool" = some none)
    (z3 : PySem.W.nsIn K mainGlobals "int" = some none)
    (z4 : PySem.W.nsIn K mainGlobals "isinstance" = some none)
    (z5 : PySem.W.nsIn K mainGlobals "len" = some none)
    (z6 : PySem.W.nsIn K mainGlobals "list" = some none)
    (z7 : PySem.W.nsIn K mainGlobals "max" = some none)
    (z8 : PySem.W.nsIn K mainGlobals "range" = some none)
    {f9 : Addr} {od9 an9 : Option Addr} {sl9 : Array (Option Value)} {oc9 kV9 dc9 pm9 cd9 ct9 : Value}
    (a9 : PySem.W.nsIn K mainGlobals "registers_of" = some (some (.ref f9))) (l9 : K.lookup f9 = some ⟨oc9, od9, .func (PySem.W.fnOf "registers_of" "registers_of" (defArgs s_programs_registers_of) (defBody s_programs_registers_of) (defScope s_programs_registers_of) .none kV9 dc9 pm9 an9 cd9 ct9), sl9⟩) (c9 : PySem.W.codeIn K cd9 "registers_of" = true) (k9 : PySem.W.keepIn K (.ref f9) = true)
    {f10 : Addr} {od10 an10 : Option Addr} {sl10 : Array (Option Value)} {oc10 kV10 dc10 pm10 cd10 ct10 : Value}
    (a10 : PySem.W.nsIn K mainGlobals "width" = some (some (.ref f10))) (l10 : K.lookup f10 = some ⟨oc10, od10, .func (PySem.W.fnOf "width" "width" (defArgs s_programs_width) (defBody s_programs_width) (defScope s_programs_width) .none kV10 dc10 pm10 an10 cd10 ct10), sl10⟩) (c10 : PySem.W.codeIn K cd10 "width" = true) (k10 : PySem.W.keepIn K (.ref f10) = true)
    {f11 : Addr} {od11 an11 : Option Addr} {sl11 : Array (Option Value)} {oc11 kV11 dc11 pm11 cd11 ct11 : Value}
    (a11 : PySem.W.nsIn K mainGlobals "_law_draw" = some (some (.ref f11))) (l11 : K.lookup f11 = some ⟨oc11, od11, .func (PySem.W.fnOf "_law_draw" "_law_draw" (defArgs s_L_draw) (defBody s_L_draw) (defScope s_L_draw) .none kV11 dc11 pm11 an11 cd11 ct11), sl11⟩) (c11 : PySem.W.codeIn K cd11 "_law_draw" = true) (k11 : PySem.W.keepIn K (.ref f11) = true)
    {f12 : Addr} {od12 an12 : Option Addr} {sl12 : Array (Option Value)} {oc12 kV12 dc12 pm12 cd12 ct12 : Value}
    (a12 : PySem.W.nsIn K mainGlobals "_law_tree" = some (some (.ref f12))) (l12 : K.lookup f12 = some ⟨oc12, od12, .func (PySem.W.fnOf "_law_tree" "_law_tree" (defArgs s_L_tree) (defBody s_L_tree) (defScope s_L_tree) .none kV12 dc12 pm12 an12 cd12 ct12), sl12⟩) (c12 : PySem.W.codeIn K cd12 "_law_tree" = true) (k12 : PySem.W.keepIn K (.ref f12) = true)
    {f13 : Addr} {od13 an13 : Option Addr} {sl13 : Array (Option Value)} {oc13 kV13 dc13 pm13 cd13 ct13 : Value}
    (a13 : PySem.W.nsIn K mainGlobals "_law_program" = some (some (.ref f13))) (l13 : K.lookup f13 = some ⟨oc13, od13, .func (PySem.W.fnOf "_law_program" "_law_program" (defArgs s_L_program) (defBody s_L_program) (defScope s_L_program) .none kV13 dc13 pm13 an13 cd13 ct13), sl13⟩) (c13 : PySem.W.codeIn K cd13 "_law_program" = true) (k13 : PySem.W.keepIn K (.ref f13) = true)
    {f14 : Addr} {od14 an14 : Option Addr} {sl14 : Array (Option Value)} {oc14 kV14 dc14 pm14 cd14 ct14 : Value}
    (a14 : PySem.W.nsIn K mainGlobals "_law_stream" = some (some (.ref f14))) (l14 : K.lookup f14 = some ⟨oc14, od14, .func (PySem.W.fnOf "_law_stream" "_law_stream" (defArgs s_L_stream) (defBody s_L_stream) (defScope s_L_stream) .none kV14 dc14 pm14 an14 cd14 ct14), sl14⟩) (c14 : PySem.W.codeIn K cd14 "_law_stream" = true) (k14 : PySem.W.keepIn K (.ref f14) = true)
    {f0 : Addr} {od0 an0 : Option Addr} {sl0 : Array (Option Value)} {oc0 kV0 dc0 pm0 cd0 ct0 : Value}
    (a0 : PySem.W.nsIn K mainGlobals "law" = some (some (.ref f0))) (l0 : K.lookup f0 = some ⟨oc0, od0, .func (PySem.W.fnOf "law" "law" (defArgs s_L_law) (defBody s_L_law) (defScope s_L_law) .none kV0 dc0 pm0 an0 cd0 ct0), sl0⟩) (c0 : PySem.W.codeIn K cd0 "law" = true) (k0 : PySem.W.keepIn K (.ref f0) = true)
    : ∃ fd : FuncData, (∀ (s : Shared) (u : Value), BindsTo s fd ⟨[u], []⟩ [("_law_script", u)]) ∧ ∀ base : Heap, K.In base → base.Ns mainGlobals mg → FnOk P w K mg base CX0 4 fa fd ["_law_script"] (spLaw K mg) := by
  have e := hfa.symm.trans (PySem.W.mg_of X G a0)
  cases e
  exact ⟨PySem.W.fnOf "law" "law" (defArgs s_L_law) (defBody s_L_law) (defScope s_L_law) .none kV0 dc0 pm0 an0 cd0 ct0, fun s u => .of_eq rfl, fun base _ _ => all_ok (txt_mk X G z1 z2 z3 z4 z5 z6 z7 z8 a9 l9 c9 k9 a10 l10 c10 k10 a11 l11 c11 k11 a12 l12 c12 k12 a13 l13 c13 k13 a14 l14 c14 k14) (L2.fun_mk l0 c0 k0)⟩
end NV
open PySem PySem.W PyProof.Rows in
set_option maxRecDepth 100000 in
set_option maxHeartbeats 0 in
theorem PySem.Challenge.cw_narcissus_k07_width_holds : PySem.Challenge.rw_narcissus_k07_width.Holds := by
  w_on; o_law; k_head; (case hw => w_witness2)
  k_fill
  refine NV.walk_law (l := PySem.Challenge.rw_narcissus_k07_width) (k := 4) rfl rfl (by decide) (fun w h Y => PySem.W.kIn_of Y) ?F
  case F =>
    intro w mg fa h KX G hmg
    refine' NV.fin_mk KX G hmg ?z1 ?z2 ?z3 ?z4 ?z5 ?z6 ?z7 ?z8 ?a9 ?l9 ?c9 ?k9 ?a10 ?l10 ?c10 ?k10 ?a11 ?l11 ?c11 ?k11 ?a12 ?l12 ?c12 ?k12 ?a13 ?l13 ?c13 ?k13 ?a14 ?l14 ?c14 ?k14 ?a0 ?l0 ?c0 ?k0
    (case z1 => k_is)
    (case z2 => k_is)
    (case z3 => k_is)
    (case z4 => k_is)
    (case z5 => k_is)
    (case z6 => k_is)
    (case z7 => k_is)
    (case z8 => k_is)
    (case a9 => k_is)
    (case l9 => k_is)
    (case c9 => k_is)
    (case k9 => k_is)
    (case a10 => k_is)
    (case l10 => k_is)
    (case c10 => k_is)
    (case k10 => k_is)
    (case a11 => k_is)
    (case l11 => k_is)
    (case c11 => k_is)
    (case k11 => k_is)
    (case a12 => k_is)
    (case l12 => k_is)
    (case c12 => k_is)
    (case k12 => k_is)
    (case a13 => k_is)
    (case l13 => k_is)
    (case c13 => k_is)
    (case k13 => k_is)
    (case a14 => k_is)
    (case l14 => k_is)
    (case c14 => k_is)
    (case k14 => k_is)
    (case a0 => k_is)
    (case l0 => k_is)
    (case c0 => k_is)
    (case k0 => k_is)
#print axioms PySem.Challenge.cw_narcissus_k07_width_holds

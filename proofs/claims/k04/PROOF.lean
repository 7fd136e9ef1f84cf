import PyProof.Rows.All
import Wide.All
import OpenK.AllK
import Wide.FinOn
import HandS.ForMost
import HandS.ForExc
import HandS.TupAny
import HandS.TupMul
import HandS.IsInst
import HandS.Style
import HandS.Rev
import HandS.RevRange
import HandS.Evl
import HandS.ExcIs
import PyProof.StrOps2
import PySem.Challenge.RW_narcissus_k04_lists
set_option Elab.async false
set_option linter.all false
set_option maxRecDepth 100000
set_option maxHeartbeats 4000000
set_option Elab.async false
set_option linter.all false
set_option maxRecDepth 100000
set_option maxHeartbeats 4000000
/-! # universal operators: readings that follow the values -/
namespace NV
open PySem PySem.Spec PyProof.Rows L2
section
variable {X : Cx}
theorem PEwk {e : Expr} {t t' : TE} (h : PE X e t) (w : ∀ σ H Q, t' σ H Q → t σ H Q) : PE X e t' :=
  ⟨fun p s σ H Q I q => h.run p s σ H Q I (w _ _ _ q)⟩
theorem PTwk {e : Expr} {t t' : TT} (h : PT X e t) (w : ∀ σ H Q, t' σ H Q → t σ H Q) : PT X e t' :=
  ⟨fun p s σ H Q I q => h.run p s σ H Q I (w _ _ _ q)⟩
theorem OpWk {f : Value → Value → Sem Value} {r r' : R2} (h : OpR X f r) (w : ∀ x y H Q, r' x y H Q → r x y H Q) : OpR X f r' :=
  fun pins s σ H x y v u Q I rx ry q => h pins s σ H x y v u Q I rx ry (w _ _ _ _ q)
theorem CallWk {f : Value} {r r' : List V → Hp → VK → Prop} (h : CallR X f r) (w : ∀ xs H Q, r' xs H Q → r xs H Q) : CallR X f r' :=
  fun pins s σ H xs us Q I r q => h pins s σ H xs us Q I r (w _ _ _ q)
/-! ### a name -/
def mV (i : Nat) : TE := fun σ H Q => match σ[i]? with
  | some (some v) => Q v H
  | _ => False
theorem nv (i : Nat) {x : Str} {pos : Pos} (hN : X.N[i]? = some x := by rfl) (hv : Vis X.env.scope x := by first | exact Or.inl rfl | exact Or.inr (Or.inl rfl) | exact Or.inr (Or.inr rfl)) (hd : (x == ("__debug__" : Str)) = false := by decide)
    (hcd : (x == ("__classdict__" : Str)) = false := by decide) : PE X (.Name x pos) (mV i) := PEwk (pe_var hN hv hd hcd) fun σ H Q h => by
  unfold mV at h
  split at h
  · exact ⟨_, by assumption, h⟩
  · exact h.elim
/-! ### a list or a tuple that is read -/
def SqA (K : PySem.W.Frag) (H : Hp) (a : Addr) (xs : List V) : Prop := SqL K H a xs ∨ SqT K H a xs
theorem SqA.l {K : PySem.W.Frag} {H : Hp} {a : Addr} {xs : List V} (h : H a = some (.lst xs)) : SqA K H a xs := .inl (.of h)
theorem SqA.t {K : PySem.W.Frag} {H : Hp} {a : Addr} {xs : List V} (h : H a = some (.tup xs)) : SqA K H a xs := .inr (.of h)
/-! ### + - * // % -/
def rAddU (K : PySem.W.Frag) : R2 := fun x y H Q => match x, y with
  | .int i, .int j => Q (.int (i + j)) H
  | .int i, .bl k => Q (.int (i + b2i k)) H
  | .str a, .str b => a.length + b.length ≤ sizeLine ∧ Q (.str (a ++ b)) H
  | .ref a, .ref b => rCat (.ref a) (.ref b) H Q ∨ rCatA K (.ref a) (.ref b) H Q
  | _, _ => False
theorem oAdd {K : PySem.W.Frag} (hK : X.K = K := by rfl) : OpR X (binaryOp .Add) (rAddU K) := fun pins s σ H x y v u Q I rx ry h => by
  subst hK
  cases x <;> cases y <;> first
    | exact op_add pins s σ H _ _ v u Q I rx ry ⟨_, _, rfl, rfl, h⟩
    | exact op_add_ib pins s σ H _ _ v u Q I rx ry ⟨_, _, rfl, rfl, h⟩
    | exact op_add_str pins s σ H _ _ v u Q I rx ry ⟨_, _, rfl, rfl, h.1, h.2⟩
    | exact h.elim (fun h => op_cat pins s σ H _ _ v u Q I rx ry h) (fun h => op_catA pins s σ H _ _ v u Q I rx ry h)
    | exact False.elim h
def rSubU : R2 := fun x y H Q => match x, y with
  | .int i, .int j => Q (.int (i - j)) H
  | _, _ => False
theorem oSub : OpR X (binaryOp .Sub) rSubU := fun pins s σ H x y v u Q I rx ry h => by
  cases x <;> cases y <;> first
    | exact op_sub pins s σ H _ _ v u Q I rx ry ⟨_, _, rfl, rfl, h⟩
    | exact False.elim h
/-- the text z, n times -/
def repS (z : Str) (n : Nat) : Str := ⟨(List.replicate n z.cps.toList).flatten.toArray⟩
theorem foldl_repS (z : List Nat) : ∀ (n : Nat) (acc : List Nat), (List.replicate n z.toArray).foldl (fun x y => x ++ y) acc.toArray = (acc ++ (List.replicate n z).flatten).toArray := by
  intro n
  induction n with
  | zero => intro acc; simp
  | succ n ih =>
    intro acc
    rw [List.replicate_succ, List.foldl_cons, List.append_toArray, ih, List.replicate_succ, List.flatten_cons, List.append_assoc]
def rMulU (K : PySem.W.Frag) : R2 := fun x y H Q => match x, y with
  | .int i, .int j => CMul i j ∧ Q (.int (i * j)) H
  | .str a, .int n => (-(2 ^ 63) < n ∧ n < 2 ^ 62 ∧ a.length * n.toNat ≤ 10000000) ∧ Q (.str (repS a n.toNat)) H
  | .ref a, .int n => rRep (.ref a) (.int n) H Q ∨ rRepT K (.ref a) (.int n) H Q
  | _, _ => False
theorem repS_one (z : Str) : repS z 1 = z := by
  obtain ⟨⟨l⟩⟩ := z
  unfold repS
  rw [List.replicate_one, List.flatten_singleton]
theorem repS_nil (n : Nat) (z : Str) (h : z.length = 0) : repS z n = z := by
  obtain ⟨⟨l⟩⟩ := z
  have e : l = [] := List.length_eq_zero_iff.mp h
  subst e
  unfold repS
  rw [List.flatten_replicate_nil]
theorem repS_length (z : Str) (n : Nat) : (repS z n).length = z.length * n := by
  obtain ⟨⟨l⟩⟩ := z
  show (List.replicate n l).flatten.toArray.size = l.length * n
  rw [List.size_toArray, List.length_flatten, List.map_replicate, List.sum_replicate_nat, Nat.mul_comm]
theorem oMul {K : PySem.W.Frag} (hK : X.K = K := by rfl) : OpR X (binaryOp .Mult) (rMulU K) := fun pins s σ H x y v u Q I rx ry h => by
  subst hK
  cases x <;> cases y <;> first
    | exact op_mul pins s σ H _ _ v u Q I rx ry ⟨_, _, rfl, rfl, h.1, h.2⟩
    | exact h.elim (fun h => op_rep pins s σ H _ _ v u Q I rx ry h) (fun h => op_repT pins s σ H _ _ v u Q I rx ry h)
    | exact False.elim h
    | skip
  rename_i a n
  obtain ⟨⟨h1, h2, h3⟩, q⟩ := h
  obtain ⟨t, rfl⟩ := rx
  obtain ⟨t', rfl⟩ := ry
  have hz : sizeLine = 16777216 := sizeLine_eq
  by_cases hn : n < 1
  · have e : n.toNat = 0 := by omega
    rw [e] at q
    exact PySem.P.mul_str_none hn (by omega) ⟨.str (repS a 0), H, I.tok _, ⟨_, rfl⟩, q⟩
  · refine PySem.P.mul_str (by rw [decide_eq_false (by omega), decide_eq_false (by omega)]; rfl) (fun _ hc => ?_) (fun _ _ => ?_) ?_
    · have hl : 0 < a.length := by
        rw [Bool.or_eq_false_iff] at hc
        have := hc.2
        rw [beq_eq_false_iff_ne] at this
        omega
      intro hgt
      have hn0 : (0 : Int) < n := by omega
      have h5 : (a.length : Int) * n ≤ 10000000 := by
        have e : ((a.length * n.toNat : Nat) : Int) = (a.length : Int) * n := by
          rw [Int.natCast_mul, Int.toNat_of_nonneg (by omega)]
        rw [← e]
        exact Int.ofNat_le.mpr h3
      have h6 : (2 ^ 63 - 1) / n * n ≤ 2 ^ 63 - 1 := Int.ediv_mul_le _ (by omega)
      have h7 : (2 ^ 63 - 1) / n < (a.length : Int) := hgt
      have h9 : n ≤ 10000000 := by
        have : (1 : Int) * n ≤ (a.length : Int) * n := Int.mul_le_mul_of_nonneg_right (by omega) (by omega)
        omega
      have h10 : (a.length : Int) ≤ 10000000 := by
        have : (a.length : Int) * 1 ≤ (a.length : Int) * n := Int.mul_le_mul_of_nonneg_left (by omega) (by omega)
        omega
      have h11 : (2 ^ 63 - 1) / n ≥ 10000000 := by
        refine Int.le_ediv_of_mul_le hn0 ?_
        have : 10000000 * n ≤ 10000000 * 10000000 := Int.mul_le_mul_of_nonneg_left h9 (by omega)
        omega
      omega
    · show decide (a.length * n.toNat > sizeLine) = false
      exact decide_eq_false (by omega)
    · rw [if_neg hn]
      by_cases hc : (n == 1 || a.length == 0) = true
      · rw [if_pos hc]
        have e : repS a n.toNat = a := by
          rw [Bool.or_eq_true] at hc
          rcases hc with hc | hc
          · have : n = 1 := by simpa using hc
            rw [this]
            exact repS_one a
          · exact repS_nil _ _ (by simpa using hc)
        rw [e] at q
        exact ⟨.str a, H, I, ⟨_, rfl⟩, q⟩
      · rw [if_neg hc]
        have e : (⟨(List.replicate n.toNat a.cps).foldl (· ++ ·) #[]⟩ : Str) = repS a n.toNat := by
          have := foldl_repS a.cps.toList n.toNat []
          rw [List.nil_append] at this
          unfold repS
          rw [← this]
        rw [e]
        exact ⟨by rw [repS_length]; omega, .str (repS a n.toNat), H, I.tok _, ⟨_, rfl⟩, q⟩
def rDivU : R2 := fun x y H Q => match x, y with
  | .int i, .int j => CDiv i j ∧ Q (.int (i / j)) H
  | _, _ => False
theorem oDiv : OpR X (binaryOp .FloorDiv) rDivU := fun pins s σ H x y v u Q I rx ry h => by
  cases x <;> cases y <;> first
    | exact op_fdiv pins s σ H _ _ v u Q I rx ry ⟨_, _, rfl, rfl, h.1, h.2⟩
    | exact False.elim h
def rModU : R2 := fun x y H Q => match x, y with
  | .int i, .int j => 0 < j ∧ Q (.int (i % j)) H
  | _, _ => False
theorem oMod : OpR X (binaryOp .Mod) rModU := fun pins s σ H x y v u Q I rx ry h => by
  cases x <;> cases y <;> first
    | exact op_mod pins s σ H _ _ v u Q I rx ry ⟨_, _, rfl, rfl, h.1, h.2⟩
    | exact False.elim h
/-! ### comparisons -/
def rEqU (K : PySem.W.Frag) : R2 := fun x y H Q => match scal x y with
  | true => Q (.bl (decide (x = y))) H
  | false => rEqD K x y H Q
theorem oEq {K : PySem.W.Frag} (hu : X.A.units + 64 < cLine) (hK : X.K = K := by rfl) : OpR X (compareOp .Eq) (rEqU K) := fun pins s σ H x y v u Q I rx ry h => by
  subst hK
  unfold rEqU at h
  cases e : scal x y with
  | true => rw [e] at h; exact op_eq pins s σ H _ _ v u Q I rx ry ⟨e, h⟩
  | false => rw [e] at h; exact op_eqD hu pins s σ H _ _ v u Q I rx ry h
def rNeU (K : PySem.W.Frag) : R2 := fun x y H Q => match scal x y with
  | true => Q (.bl (!decide (x = y))) H
  | false => rNeD K x y H Q
theorem oNe {K : PySem.W.Frag} (hu : X.A.units + 64 < cLine) (hK : X.K = K := by rfl) : OpR X (compareOp .NotEq) (rNeU K) := fun pins s σ H x y v u Q I rx ry h => by
  subst hK
  unfold rNeU at h
  cases e : scal x y with
  | true => rw [e] at h; exact op_ne pins s σ H _ _ v u Q I rx ry ⟨e, h⟩
  | false => rw [e] at h; exact op_neD hu pins s σ H _ _ v u Q I rx ry h
def rCI (p : Int → Int → Bool) : R2 := fun x y H Q => match x, y with
  | .int i, .int j => Q (.bl (p i j)) H
  | _, _ => False
theorem oLt : OpR X (compareOp .Lt) (rCI fun i j => decide (i < j)) := fun pins s σ H x y v u Q I rx ry h => by
  cases x <;> cases y <;> first
    | exact op_lt pins s σ H _ _ v u Q I rx ry ⟨_, _, rfl, rfl, h⟩
    | exact False.elim h
theorem oLe : OpR X (compareOp .LtE) (rCI fun i j => decide (i ≤ j)) := fun pins s σ H x y v u Q I rx ry h => by
  cases x <;> cases y <;> first
    | exact op_le pins s σ H _ _ v u Q I rx ry ⟨_, _, rfl, rfl, h⟩
    | exact False.elim h
theorem oGt : OpR X (compareOp .Gt) (rCI fun i j => decide (j < i)) := fun pins s σ H x y v u Q I rx ry h => by
  cases x <;> cases y <;> first
    | exact op_gt pins s σ H _ _ v u Q I rx ry ⟨_, _, rfl, rfl, h⟩
    | exact False.elim h
theorem oGe : OpR X (compareOp .GtE) (rCI fun i j => decide (j ≤ i)) := fun pins s σ H x y v u Q I rx ry h => by
  cases x <;> cases y <;> first
    | exact op_ge pins s σ H _ _ v u Q I rx ry ⟨_, _, rfl, rfl, h⟩
    | exact False.elim h
def rIsU : R2 := fun x y H Q => match x, y with
  | .bl a, .bl b => Q (.bl (decide (a = b))) H
  | _, .non => Q (.bl (decide (x = .non))) H
  | _, _ => False
theorem oIs : OpR X (compareOp .Is) rIsU := fun pins s σ H x y v u Q I rx ry h => by
  cases y with
  | non => exact op_isN pins s σ H _ _ v u Q I rx ry ⟨rfl, by cases x <;> exact h⟩
  | bl b =>
    cases x with
    | bl a => exact op_isBl pins s σ H _ _ v u Q I rx ry ⟨a, b, rfl, rfl, h⟩
    | _ => exact False.elim h
  | _ => cases x <;> exact False.elim h
def rIsNotU : R2 := fun x y H Q => match x, y with
  | .bl a, .bl b => Q (.bl (!decide (a = b))) H
  | _, .non => Q (.bl (!decide (x = .non))) H
  | _, _ => False
theorem oIsNot : OpR X (compareOp .IsNot) rIsNotU := fun pins s σ H x y v u Q I rx ry h => by
  cases y with
  | non => exact op_notN pins s σ H _ _ v u Q I rx ry ⟨rfl, by cases x <;> exact h⟩
  | bl b =>
    cases x with
    | bl a => exact op_notBl pins s σ H _ _ v u Q I rx ry ⟨a, b, rfl, rfl, h⟩
    | _ => exact False.elim h
  | _ => cases x <;> exact False.elim h
def rInU (K : PySem.W.Frag) : R2 := fun x y H Q => match y with
  | .str z => ∃ c, x = .str ⟨#[c]⟩ ∧ Q (.bl (decide (c ∈ z.cps.toList))) H
  | .ref p => ∃ xs, SqA K H p xs ∧ flatV x = true ∧ xs.all flatV = true ∧ Q (.bl (inV x xs)) H
  | _ => False
theorem oIn {K : PySem.W.Frag} (hK : X.K = K := by rfl) : OpR X (compareOp .In) (rInU K) := fun pins s σ H x y v u Q I rx ry h => by
  subst hK
  cases y with
  | str z =>
    obtain ⟨c, e, q⟩ := h
    exact op_in_sign pins s σ H _ _ v u Q I rx ry ⟨c, z, e, rfl, q⟩
  | ref p =>
    obtain ⟨xs, hs, h1, h2, q⟩ := h
    exact op_in_seq pins s σ H _ _ v u Q I rx ry ⟨p, xs, rfl, hs, h1, h2, q⟩
  | _ => exact False.elim h
def rNotInU (K : PySem.W.Frag) : R2 := fun x y H Q => match y with
  | .str z => ∃ c, x = .str ⟨#[c]⟩ ∧ Q (.bl (!decide (c ∈ z.cps.toList))) H
  | .ref p => ∃ xs, SqA K H p xs ∧ flatV x = true ∧ xs.all flatV = true ∧ Q (.bl (!inV x xs)) H
  | _ => False
theorem oNotIn {K : PySem.W.Frag} (hK : X.K = K := by rfl) : OpR X (compareOp .NotIn) (rNotInU K) := fun pins s σ H x y v u Q I rx ry h => by
  subst hK
  cases y with
  | str z =>
    obtain ⟨c, e, q⟩ := h
    exact op_notIn_sign pins s σ H _ _ v u Q I rx ry ⟨c, z, e, rfl, q⟩
  | ref p =>
    obtain ⟨xs, hs, h1, h2, q⟩ := h
    exact op_notIn_seq pins s σ H _ _ v u Q I rx ry ⟨p, xs, rfl, hs, h1, h2, q⟩
  | _ => exact False.elim h
/-- in a tuple of tuples -/
def rInDT (K : PySem.W.Frag) : R2 := fun x y H Q => ∃ d ds, Dp K H x d ∧ Dp K H y (.tuple ds) ∧ SeqAt.shaped d = true ∧ SeqAt.shaped (.tuple ds) = true ∧ Q (.bl (ds.any fun z => PyData.eqv z d)) H
theorem oInD {K : PySem.W.Frag} {k : Nat} (hr : Room k X.A) (hK : X.K = K := by rfl) : OpR X (compareOp .In) (rInDT K) := by
  subst hK
  intro pins s σ H x y v u Q I rx ry h
  obtain ⟨d, ds, hd, he, sd, se, q⟩ := h
  obtain ⟨as, r1⟩ := Dp.reads I d x v hd rx
  obtain ⟨bs, r2⟩ := Dp.reads I (.tuple ds) y u he ry
  exact SeqAt.in_tuple_reads r2 r1 (SeqAt.canLay_of_shaped se) (SeqAt.canLay_of_shaped sd) (room_in_shaped sd (by have := hr.un; omega)) ⟨.bl _, H, I, rfl, q⟩
/-! ### x[i], x[a:b] -/
def rIxU (K : PySem.W.Frag) : R2 := fun x y H Q => match x, y with
  | .str z, .int i => z.length ≤ sizeLine ∧ ∃ c, atI z.cps.toList i = some c ∧ Q (.str ⟨#[c]⟩) H
  | .ref p, .int i => ∃ xs v, SqA K H p xs ∧ atI xs i = some v ∧ Q v H
  | _, _ => False
theorem ixU {K : PySem.W.Frag} (hK : X.K = K := by rfl) : IxR X (rIxU K) := fun a b pins s σ H x y v u Q I rx ry h hs => by
  subst hK
  refine ix_seq a b pins s σ H x y v u Q I rx ry ?_ hs
  cases x <;> cases y <;> first
    | (exact False.elim h)
    | (obtain ⟨hz, c, e, q⟩ := h; exact Or.inr (Or.inr ⟨_, _, c, rfl, rfl, hz, e, q⟩))
    | (obtain ⟨xs, v, hq, e, q⟩ := h
       rcases hq with hq | hq
       · exact Or.inl ⟨_, xs, _, v, rfl, rfl, hq, e, q⟩
       · exact Or.inr (Or.inl ⟨_, xs, _, v, rfl, rfl, hq, e, q⟩))
def rSlU (K : PySem.W.Frag) : V → Option Int → Option Int → Hp → VK → Prop := fun x lo hi H Q => match x with
  | .str z => z.length ≤ sizeLine ∧ Q (.str (cutS z lo hi)) H
  | .ref a => rSlL K (.ref a) lo hi H Q ∨ rSlA K (.ref a) lo hi H Q
  | _ => False
theorem slU {K : PySem.W.Frag} (hK : X.K = K := by rfl) : SlR X (rSlU K) := by
  subst hK
  intro pins s σ H x v vl vu lo hi sl Q I rx hs pl pu h
  cases x with
  | str z => exact sl_str pins s σ H _ v vl vu lo hi sl Q I rx hs pl pu ⟨z, rfl, h.1, h.2⟩
  | ref a =>
    rcases h with h | h
    · exact sl_list pins s σ H _ v vl vu lo hi sl Q I rx hs pl pu h
    · exact sl_tupA pins s σ H _ v vl vu lo hi sl Q I rx hs pl pu h
  | _ => exact False.elim h
/-! ### built-in calls -/
def rLenU (K : PySem.W.Frag) : List V → Hp → VK → Prop := fun vs H Q => match vs with
  | [.str z] => z.length ≤ sizeLine ∧ Q (.int z.length) H
  | [.ref p] => ∃ xs, SqA K H p xs ∧ Q (.int xs.length) H
  | _ => False
theorem cLen {K : PySem.W.Frag} (hK : X.K = K := by rfl) : CallR X (.builtin "len") (rLenU K) := by
  subst hK
  refine CallWk call_len ?_
  intro vs H Q h
  unfold rLenU at h
  split at h
  · exact ⟨_, _, rfl, ⟨h.1, rfl⟩, h.2⟩
  · obtain ⟨xs, hq, q⟩ := h
    rcases hq with hq | hq
    · exact ⟨_, _, rfl, .inl ⟨xs, hq, rfl⟩, q⟩
    · exact ⟨_, _, rfl, .inr ⟨xs, hq, rfl⟩, q⟩
  · exact h.elim
def rIntU : List V → Hp → VK → Prop := fun vs H Q => match vs with
  | [.int i] => Q (.int i) H
  | [.bl k] => Q (.int (if k then 1 else 0)) H
  | _ => False
theorem cInt : CallR X (.type "int") rIntU := CallWk call_int1 fun vs H Q h => by
  unfold rIntU at h
  split at h
  · exact .inl ⟨_, rfl, h⟩
  · exact .inr ⟨_, rfl, h⟩
  · exact h.elim
def rAbsU : List V → Hp → VK → Prop := fun vs H Q => match vs with
  | [.int i] => Q (.int (if i < 0 then -i else i)) H
  | _ => False
theorem cAbs : CallR X (.builtin "abs") rAbsU := CallWk call_abs fun vs H Q h => by
  unfold rAbsU at h
  split at h
  · exact ⟨_, rfl, h⟩
  · exact h.elim
def rListU (K : PySem.W.Frag) : List V → Hp → VK → Prop := fun vs H Q => match vs with
  | [.ref p] => ∃ ys, SqA K H p ys ∧ ∀ l, H l = none → Q (.ref l) (upd H l (.lst ys))
  | _ => False
theorem cList {K : PySem.W.Frag} (hK : X.K = K := by rfl) : CallR X (.type "list") (rListU K) := by
  subst hK
  refine CallWk call_list_of ?_
  intro vs H Q h
  unfold rListU at h
  split at h
  · obtain ⟨ys, hq, q⟩ := h
    exact ⟨_, ys, rfl, hq, q⟩
  · exact h.elim
def rTupU (K : PySem.W.Frag) : List V → Hp → VK → Prop := fun vs H Q => match vs with
  | [.ref p] => ∃ ys, SqL K H p ys ∧ ∀ l, H l = none → Q (.ref l) (upd H l (.tup ys))
  | _ => False
theorem cTup {K : PySem.W.Frag} (hK : X.K = K := by rfl) : CallR X (.type "tuple") (rTupU K) := by
  subst hK
  refine CallWk call_tuple_of ?_
  intro vs H Q h
  unfold rTupU at h
  split at h
  · obtain ⟨ys, hq, q⟩ := h
    exact ⟨_, ys, rfl, .inl ⟨hq, q⟩⟩
  · exact h.elim
/-- isinstance(x, T), T a built-in class -/
def rIsiU (K : PySem.W.Frag) : List V → Hp → VK → Prop := fun vs H Q => match vs with
  | [.non, .ty n] => ∃ b, kitB "NoneType" n = some b ∧ Q (.bl b) H
  | [.bl _, .ty n] => ∃ b, kitB "bool" n = some b ∧ Q (.bl b) H
  | [.int _, .ty n] => ∃ b, kitB "int" n = some b ∧ Q (.bl b) H
  | [.str _, .ty n] => ∃ b, kitB "str" n = some b ∧ Q (.bl b) H
  | [.ref p, .ty n] => ∃ T b, TyX K H (.ref p) (.type T) ∧ kitB T n = some b ∧ Q (.bl b) H
  | _ => False
theorem cIsi {K : PySem.W.Frag} (hK : X.K = K := by rfl) : CallR X (.builtin "isinstance") (rIsiU K) := by
  subst hK
  refine CallWk call_isi ?_
  intro vs H Q h
  unfold rIsiU at h
  split at h
  · obtain ⟨b, e, q⟩ := h; exact ⟨_, _, _, _, b, rfl, .ty _, .base .non, kit_ty e, q⟩
  · obtain ⟨b, e, q⟩ := h; exact ⟨_, _, _, _, b, rfl, .ty _, .base (.bl _), kit_ty e, q⟩
  · obtain ⟨b, e, q⟩ := h; exact ⟨_, _, _, _, b, rfl, .ty _, .base (.int _), kit_ty e, q⟩
  · obtain ⟨b, e, q⟩ := h; exact ⟨_, _, _, _, b, rfl, .ty _, .base (.str _), kit_ty e, q⟩
  · obtain ⟨T, b, ty, e, q⟩ := h; exact ⟨_, _, _, _, b, rfl, .ty _, ty, kit_ty e, q⟩
  · exact h.elim
/-! ### tests -/
/-- a bool as a test -/
def mT (t : TE) : TT := fun σ H Q => t σ H fun x H' => match x with
  | .bl b => Q b H'
  | _ => False
theorem isB (Q : Bool → Hp → Prop) : (fun (x : V) (H' : Hp) => match x with | .bl b => Q b H' | _ => False) = (fun x H' => ∃ k, x = .bl k ∧ Q k H') := by
  funext x H'
  cases x with
  | bl b => exact propext ⟨fun h => ⟨b, rfl, h⟩, fun ⟨k, e, h⟩ => by cases e; exact h⟩
  | _ => exact propext ⟨fun h => h.elim, fun ⟨k, e, h⟩ => by cases e⟩
theorem nCmp {a b : Expr} {op : CmpOp} {r : R2} {ta tb : TE} {pos : Pos} (ho : OpR X (compareOp op) r) (ha : PE X a ta) (hb : PE X b tb) (hm : behindInMarks op b = false) : PT X (.Compare a [op] [b] pos) (mT (tOp r ta tb)) :=
  PTwk (pt_cmpR ho ha hb hm) fun σ H Q h => by
    unfold mT at h
    rw [isB] at h
    exact h
theorem nVal {e : Expr} {te : TE} (h : PE X e te) (he : ∀ whole, isTrue e X.env whole = (do let v ← whole; standAt e.pos; holding [v] (truthy v)) := by intro _; rfl) : PT X e (mT te) :=
  PTwk (pt_val h he) fun σ H Q h => by
    unfold mT at h
    rw [isB] at h
    exact h
/-! ### what a for walks -/
def iAnyU (K : PySem.W.Frag) (te : TE) : TI := fun σ H R => te σ H fun v H1 => match v with
  | .str z => R (Its z) H1
  | .ref a => ((∃ xs, SqL K H1 a xs) ∧ R (Itl K a) H1) ∨ ((∃ xs, SqT K H1 a xs) ∧ R (Itt K a) H1)
  | _ => False
theorem PIwk {tg iter : Expr} {w w' : TI} (h : PI X tg iter w) (k : ∀ σ H R, w' σ H R → w σ H R) : PI X tg iter w' := ⟨fun p s σ H R I q => h.run p s σ H R I (k _ _ _ q)⟩
theorem piAny {K : PySem.W.Frag} {tg e : Expr} {te : TE} (he : PE X e te) (hK : X.K = K := by rfl) : PI X tg e (iAnyU K te) := by
  subst hK
  refine ⟨fun pins s σ H R I h => ?_⟩
  -- the value is found first; what walks it follows its kind
  have key : ∀ (v : V) (H1 : Hp) (u : Value) (s1 : Shared), Inv X pins σ H1 s1 → RelV v u → (match v with
      | .str z => R (Its z) H1
      | .ref a => ((∃ xs, SqL X.K H1 a xs) ∧ R (Itl X.K a) H1) ∨ ((∃ xs, SqT X.K H1 a xs) ∧ R (Itt X.K a) H1)
      | _ => False) → wpAny (model X.prog X.w) X.A (pyIter u) (PIE X pins σ tg R) X.xe s1 := by
    intro v H1 u s1 I1 r1 q
    cases v with
    | str x =>
      obtain ⟨t, rfl⟩ := r1
      cases ha : x.cps.all (· < 128)
      · exact wpAny_pyIter_wide ha (pi_one (tk := s1.toks) I1 _ (turn_str _ x t "str_iterator" (.inr rfl)) ⟨_, Heap.get?_push_size _ rfl, rfl, rfl⟩ q)
      · exact wpAny_pyIter_ascii ha (pi_one (tk := s1.toks) I1 _ (turn_str _ x t "str_ascii_iterator" (.inl rfl)) ⟨_, Heap.get?_push_size _ rfl, rfl, rfl⟩ q)
    | ref a =>
      cases r1
      rcases q with ⟨⟨xs, hq⟩, q⟩ | ⟨⟨xs, hq⟩, q⟩
      · obtain ⟨its, rv, pl, hz⟩ := I1.list hq
        exact wpAny_pyIter_list pl.isList (pi_one (tk := s1.toks) I1 _ (turn_list a _) ⟨_, Heap.get?_push_size _ rfl, rfl, rfl⟩ q)
      · obtain ⟨its, rv, pl, hz⟩ := I1.tuple hq
        exact wpAny_pyIter_tuple (show s1.heap.IsTuple a its.toArray from pl) (pi_one (tk := s1.toks) I1 _ (turn_tuple a _) ⟨_, Heap.get?_push_size _ rfl, rfl, rfl⟩ q)
    | _ => exact q.elim
  refine thn (he.run pins s σ H _ I h) fun u s1 ⟨v, H1, I1, r1, q⟩ => key v H1 u s1 I1 r1 q
/-! ### a module's constant -/
theorem nGlobI {x : Str} {i : Int} {pos : Pos} (hm : ∃ t, X.mg x = some (.int i t)) (hg : Gl X x := by rfl) (hd : (x == ("__debug__" : Str)) = false := by decide) : PE X (.Name x pos) (tC (.int i)) := by
  obtain ⟨t, hm⟩ := hm
  exact pe_glob hg hm ⟨t, rfl⟩ hd
theorem nGlobS {x z : Str} {pos : Pos} (hm : ∃ t, X.mg x = some (.str z t)) (hg : Gl X x := by rfl) (hd : (x == ("__debug__" : Str)) = false := by decide) : PE X (.Name x pos) (tC (.str z)) := by
  obtain ⟨t, hm⟩ := hm
  exact pe_glob hg hm ⟨t, rfl⟩ hd
/-- a tuple of the module's top -/
def GTup (K : PySem.W.Frag) (mg : Str → Option Value) (x : Str) (xs : List V) : Prop := ∃ a, mg x = some (.ref a) ∧ ∀ H, SqT K H a xs
def mGT (K : PySem.W.Frag) (xs : List V) : TE := fun _ H Q => ∀ a, (∀ H, SqT K H a xs) → Q (.ref a) H
theorem nGlobT {x : Str} {xs : List V} {pos : Pos} (hm : GTup X.K X.mg x xs) (hg : Gl X x := by rfl) (hd : (x == ("__debug__" : Str)) = false := by decide) : PE X (.Name x pos) (mGT X.K xs) := by
  obtain ⟨a, hm, hs⟩ := hm
  exact PEwk (pe_glob hg hm (v := .ref a) rfl hd) fun σ H Q h => h a hs
theorem nTy {x : Str} {T : String} {pos : Pos} (hm : X.mg x = none) (hv : bootBuiltins x = some (.type T)) (hg : Gl X x := by rfl) (hn : x ≠ "__name__" := by decide) (hd : (x == ("__debug__" : Str)) = false := by decide) : PE X (.Name x pos) (tC (.ty T)) := pe_bltn hg hm hv (v := .ty T) rfl hn hd
/-! ### exceptions of own classes over ValueError -/
structure ExcK (K : PySem.W.Frag) (mg : Str → Option Value) (x : Str) : Prop where
  ex : ∃ C, mg x = some (.ref C) ∧ PySem.W.excIn K C [.type "ValueError", .type "Exception", .type "BaseException", .type "object"] "ValueError.__new__" = true ∧ PySem.W.keepIn K (.ref C) = true ∧
    PySem.W.subIn K (.ref C) (.type "BaseException") = some true ∧ PySem.W.typeIn K (.ref C) = some (.type "type")
/-- raise X('..') -/
theorem nMk {K : PySem.W.Frag} {mg : Str → Option Value} {x m : Str} {j : Nat} {p p2 pos : Pos} (h : ExcK K mg x) (hM : X.mg = mg := by rfl) (hK : X.K = K := by rfl) (hg : Gl X x := by rfl) (hdb : (x == ("__debug__" : Str)) = false := by decide) : PMk X (.Call (.Name x p) [.Constant (.str m) j p2] [] pos) (fun _ H Q => ∀ cls, mg x = some cls → Q cls none H) := by
  subst hM
  subst hK
  obtain ⟨C, g, e, kp, sb, ty⟩ := h.ex
  intro pins s σ H Q I q
  exact pmk_own PySem.F.excBase_ValueError e g kp (raises_own sb ty) hg hdb pins s σ H Q I (q _ g)
/-- try: .. except X: .. -/
theorem nTryOnly {x : Str} {body suite : List Stmt} {b₀ : Stmt} {np pos pos' : Pos} {tb : WX → TS} {ts : Addr → Value → Option Addr → TS} {Wout : WX} (hs : X.stack = X.env :: X.outer) (hf : X.env.frame = some X.env.locals) (hx : ExcK X.K X.mg x) (tk : Takes X Wout)
    (hb : ∀ (W : WX) (pn : List (Addr × Obj)) (xe : Value → Shared → Prop), Takes (X.tr pn xe) W → PassesOwn (model X.prog X.w) X.A X.env xe → PSs (X.tr pn xe) body (tb W))
    (hsu : ∀ (a : Addr) (oe : Obj) (cls : Value) (d : Option Addr) (pn : List (Addr × Obj)), Zc cls d oe → (∃ vs, oe.data = .fields vs) → PSs (X.suite a ((a, oe) :: pn)) (b₀ :: suite) (ts a cls d)) (hg : Gl X x := by rfl) (hdb : (x == ("__debug__" : Str)) = false := by decide) :
    PS X (.Try body [.ExceptHandler (some (.Name x np)) none (b₀ :: suite) pos'] [] [] pos) (fun D σ H => ∀ c, X.mg x = some c → tb (wOnly X.K c ts Wout D) D σ H) := by
  obtain ⟨C, g, e, kp, sb, ty⟩ := hx.ex
  refine ⟨fun pins s σ H D I h => ?_⟩
  exact (ps_try_only hs hf ⟨hg, hdb, .inl g⟩ tk hb hsu).run pins s σ H D I (h _ g)
theorem nTryAs {x n : Str} {i : Nat} {body suite : List Stmt} {b₀ : Stmt} {np pos pos' : Pos} {tb : WX → TS} {ts : Addr → Value → Option Addr → TS} {Wout : WX} (hs : X.stack = X.env :: X.outer) (hf : X.env.frame = some X.env.locals) (hN : X.N.Nodup) (hi : X.N[i]? = some n) (hln : X.env.kindOf n = some .local) (hx : ExcK X.K X.mg x) (tk : Takes X Wout)
    (hb : ∀ (W : WX) (pn : List (Addr × Obj)) (xe : Value → Shared → Prop), Takes (X.tr pn xe) W → PassesOwn (model X.prog X.w) X.A X.env xe → PSs (X.tr pn xe) body (tb W))
    (hsu : ∀ (a : Addr) (oe : Obj) (cls : Value) (d : Option Addr) (pn : List (Addr × Obj)), Zc cls d oe → (∃ vs, oe.data = .fields vs) → PSs (X.suite a ((a, oe) :: pn)) (b₀ :: suite) (ts a cls d)) (hg : Gl X x := by rfl) (hdb : (x == ("__debug__" : Str)) = false := by decide) :
    PS X (.Try body [.ExceptHandler (some (.Name x np)) (some n) (b₀ :: suite) pos'] [] [] pos) (fun D σ H => ∀ c, X.mg x = some c → tb (wAs X.K c i ts Wout D) D σ H) := by
  obtain ⟨C, g, e, kp, sb, ty⟩ := hx.ex
  refine ⟨fun pins s σ H D I h => ?_⟩
  exact (ps_try_as hs hf hN hi hln ⟨hg, hdb, .inl g⟩ tk hb hsu).run pins s σ H D I (h _ g)
/-- a class of the top as a value -/
theorem nGlobC {K : PySem.W.Frag} {mg : Str → Option Value} {x : Str} {pos : Pos} (h : ExcK K mg x) (hM : X.mg = mg := by rfl) (hg : Gl X x := by rfl) (hd : (x == ("__debug__" : Str)) = false := by decide) : PE X (.Name x pos) (fun _ H Q => ∀ C, mg x = some (.ref C) → Q (.ref C) H) := by
  subst hM
  obtain ⟨C, g, _⟩ := h.ex
  exact PEwk (pe_glob hg g (v := .ref C) rfl hd) fun σ H Q q => q C g
/-- isinstance of the exception that a suite holds -/
def rIsEU (K : PySem.W.Frag) (a : Addr) (cls : Value) (d : Option Addr) : List V → Hp → VK → Prop := fun xs H Q => ∃ D, cls = .ref D ∧ d = none ∧ L2.ExcC K D ∧ rIsE K D a xs H Q
theorem cIsE {K : PySem.W.Frag} {a : Addr} {cls : Value} {d : Option Addr} {oe : Obj} {pn : List (Addr × Obj)} (hz : Zc cls d oe) (hf : ∃ vs, oe.data = .fields vs) (hK : X.K = K := by rfl) : CallR (X.suite a ((a, oe) :: pn)) (.builtin "isinstance") (rIsEU K a cls d) := by
  subst hK
  intro pins s σ H xs us Q I r h
  obtain ⟨D, rfl, rfl, C, h⟩ := h
  exact call_isE C hz hf pins s σ H xs us Q I r h
def IsX (K : PySem.W.Frag) (mg : Str → Option Value) (x : Str) : Prop := ∃ C, mg x = some (.ref C) ∧ L2.ExcC K C
/-- isinstance(an X, the own class Y) -/
def KitX (K : PySem.W.Frag) (mg : Str → Option Value) (x y : Str) (b : Bool) : Prop := ∀ c1 c2, mg x = some c1 → mg y = some c2 → PySem.W.kitOne K c1 c2 = some b
/-- isinstance(an X, the built-in class T) -/
def KitT (K : PySem.W.Frag) (mg : Str → Option Value) (x : Str) (T : String) (b : Bool) : Prop := ∀ c1, mg x = some c1 → PySem.W.kitOne K c1 (.type T) = some b
theorem kitx_mk {K : PySem.W.Frag} {h : Heap} {mg : Str → Option Value} (X : K.In h) (G : h.Ns mainGlobals mg) {x y : Str} {b : Bool} {C S : Addr} (a1 : PySem.W.nsIn K mainGlobals x = some (some (.ref C))) (a2 : PySem.W.nsIn K mainGlobals y = some (some (.ref S)))
    (h2 : PySem.W.isClsIn K S = true) (h3 : PySem.W.typeIn K (.ref S) = some (.type "type")) (h4 : PySem.W.subIn K (.ref C) (.ref S) = some b) (h5 : x = y → b = true) (h6 : C = S → x = y) : KitX K mg x y b := by
  intro c1 c2 e1 e2
  rw [PySem.W.mg_of X G a1] at e1
  rw [PySem.W.mg_of X G a2] at e2
  cases e1
  cases e2
  have q2 : ((PySem.W.clsIn K S).isSome && PySem.W.typeIn K (.ref S) == some (.type "type")) = true := by
    have z : (PySem.W.clsIn K S).isSome = true := h2
    rw [z, h3]; rfl
  show (if (Value.ref C == Value.ref S) = true then some true else if ((PySem.W.clsIn K S).isSome && PySem.W.typeIn K (.ref S) == some (.type "type")) = true then PySem.W.subIn K (.ref C) (.ref S) else none) = some b
  by_cases q : (Value.ref C == Value.ref S) = true
  · rw [if_pos q]
    have : C = S := by
      have := eq_of_beq q
      injection this
    rw [h5 (h6 this)]
  · rw [if_neg q, if_pos q2]
    exact h4
theorem kitt_mk {K : PySem.W.Frag} {h : Heap} {mg : Str → Option Value} (X : K.In h) (G : h.Ns mainGlobals mg) {x : Str} {T : String} {b : Bool} {C : Addr} (a1 : PySem.W.nsIn K mainGlobals x = some (some (.ref C))) (hT : PySem.W.kitMeta T = true)
    (h4 : PySem.W.subIn K (.ref C) (.type T) = some b) : KitT K mg x T b := by
  intro c1 e1
  rw [PySem.W.mg_of X G a1] at e1
  cases e1
  show (if (Value.ref C == Value.type T) = true then some true else if PySem.W.kitMeta T = true then PySem.W.subIn K (.ref C) (.type T) else none) = some b
  rw [if_neg (by intro q; cases q), if_pos hT]
  exact h4
/-- what an except clause of Y says of an exception of the class X -/
def ExM (K : PySem.W.Frag) (mg : Str → Option Value) (x y : Str) (b : Bool) : Prop := ∀ c1 c2, mg x = some c1 → mg y = some c2 → PySem.W.exmOne K c1 c2 = some b
theorem exm_mk {K : PySem.W.Frag} {h : Heap} {mg : Str → Option Value} (X : K.In h) (G : h.Ns mainGlobals mg) {x y : Str} {b : Bool} {C S : Addr} (a1 : PySem.W.nsIn K mainGlobals x = some (some (.ref C))) (a2 : PySem.W.nsIn K mainGlobals y = some (some (.ref S)))
    (h1 : PySem.W.subIn K (.ref S) (.type "BaseException") = some true) (h2 : PySem.W.isClsIn K S = true) (h3 : PySem.W.typeIn K (.ref S) = some (.type "type")) (h4 : PySem.W.subIn K (.ref C) (.ref S) = some b) : ExM K mg x y b := by
  intro c1 c2 e1 e2
  have f1 := PySem.W.mg_of X G a1
  have f2 := PySem.W.mg_of X G a2
  rw [f1] at e1
  rw [f2] at e2
  cases e1
  cases e2
  have q1 : (PySem.W.subIn K (.ref S) (.type "BaseException") == some true) = true := by rw [h1]; rfl
  have q2 : ((PySem.W.clsIn K S).isSome && PySem.W.typeIn K (.ref S) == some (.type "type")) = true := by
    have z : (PySem.W.clsIn K S).isSome = true := h2
    rw [z, h3]; rfl
  show (if (PySem.W.subIn K (.ref S) (.type "BaseException") == some true) = true then (if ((PySem.W.clsIn K S).isSome && PySem.W.typeIn K (.ref S) == some (.type "type")) = true then PySem.W.subIn K (.ref C) (.ref S) else none) else none) = some b
  rw [if_pos q1, if_pos q2]
  exact h4
/-! ### a def that is called -/
end
/-- a def of the top that keeps a promise -/
def Cal (P : Program) (w : World) (K : PySem.W.Frag) (mg : Str → Option Value) (base : Heap) (CX : CXT) (k : Nat) (x : Str) (ps : List Str) (sp : Sp) : Prop :=
  ∃ f fd, mg x = some (.ref f) ∧ PySem.W.keepIn K (.ref f) = true ∧ Binds K fd ps [] ∧ FnOk P w K mg base CX k f fd ps sp
/-- a def of the text, as the top has left it -/
def Fn (K : PySem.W.Frag) (mg : Str → Option Value) (g x : Str) (st : Stmt) (ps : List Str) : Prop :=
  ∃ f fd, mg g = some (.ref f) ∧ Fun K x x st f fd ∧ Binds K fd ps []
section
variable {P : Program} {w : World} {K : PySem.W.Frag} {mg : Str → Option Value} {base : Heap}
theorem Fn.ok {g x : Str} {st : Stmt} {N ps : List Str} {k : Nat} {sp : Sp} (F : Fn K mg g x st ps) (S : FnScope N ps (defScope st)) (len : ∀ vs H Q E, sp vs H Q E → vs.length = ps.length)
    (hbody : ∀ (f : Addr) (cdv : Value) (A : Around) (outer : List Env) (s : Shared) (H : Hp) (vs : List V) (Q : VK) (E : XK), Room k (A.deeper (envOfC x (defScope st) s.heap.objs.size f cdv)) → sp vs H Q E →
      ∃ t, PSs (cxOf CX0 P w K mg base N x (defScope st) f cdv A outer s H E).nox (defBody st) t ∧ t { nx := fun _ H' => Q .non H', rt := Q } (start N vs) H) : Cal P w K mg base CX0 (k + 1) g ps sp := by
  obtain ⟨f, fd, hm, F, b⟩ := F
  exact ⟨f, fd, hm, F.kp, b, F.ok S len fun cdv A outer s H vs Q E hr h => hbody f cdv A outer s H vs Q E hr h⟩
theorem Fn.okX {g x : Str} {st : Stmt} {N ps : List Str} {k : Nat} {sp : Sp} (F : Fn K mg g x st ps) (S : FnScope N ps (defScope st)) (len : ∀ vs H Q E, sp vs H Q E → vs.length = ps.length)
    (hbody : ∀ (f : Addr) (cdv : Value) (A : Around) (outer : List Env) (s : Shared) (H : Hp) (vs : List V) (Q : VK) (E : XK), Room k (A.deeper (envOfC x (defScope st) s.heap.objs.size f cdv)) → sp vs H Q E →
      ∃ t, PSs (cxOf (L2.CX P w) P w K mg base N x (defScope st) f cdv A outer s H E) (defBody st) t ∧ t { nx := fun _ H' => Q .non H', rt := Q } (start N vs) H) : Cal P w K mg base (L2.CX P w) (k + 1) g ps sp := by
  obtain ⟨f, fd, hm, F, b⟩ := F
  exact ⟨f, fd, hm, F.kp, b, F.okX S len fun cdv A outer s H vs Q E hr h => hbody f cdv A outer s H vs Q E hr h⟩
theorem fn_mk {h : Heap} (X : K.In h) (G : h.Ns mainGlobals mg) {g x : Str} {st : Stmt} {ps : List Str} {f : Addr} {oc : Value} {od an : Option Addr} {osl : Array (Option Value)} {kV doc pm cdv ct : Value} (a : PySem.W.nsIn K mainGlobals g = some (some (.ref f)))
    (l : K.lookup f = some ⟨oc, od, .func (PySem.W.fnOf x x (defArgs st) (defBody st) (defScope st) .none kV doc pm an cdv ct), osl⟩) (c : PySem.W.codeIn K cdv x = true) (k : PySem.W.keepIn K (.ref f) = true)
    (b : ∀ (kV doc pm : Value) (an : Option Addr) (cdv ct : Value) (us : List Value), us.length = ps.length → bindArgs (PySem.W.fnOf x x (defArgs st) (defBody st) (defScope st) .none kV doc pm an cdv ct) ⟨us, []⟩ = pure (ps.zip us)) : Fn K mg g x st ps :=
  ⟨f, _, PySem.W.mg_of X G a, L2.fun_mk l c k, (L2.fun_mk l c k).binds b⟩
theorem Cal.imp {CX : CXT} {k : Nat} {x : Str} {ps : List Str} {sp sp' : Sp} (C : Cal P w K mg base CX k x ps sp) (h : ∀ vs H Q E, sp' vs H Q E → sp vs H Q E) : Cal P w K mg base CX k x ps sp' := by
  obtain ⟨f, fd, hm, kp, b, F⟩ := C
  exact ⟨f, fd, hm, kp, b, F.imp h⟩
theorem Cal.mono {CX : CXT} {j k : Nat} {x : Str} {ps : List Str} {sp : Sp} (C : Cal P w K mg base CX j x ps sp) (h : j ≤ k) : Cal P w K mg base CX k x ps sp := by
  obtain ⟨f, fd, hm, kp, b, F⟩ := C
  exact ⟨f, fd, hm, kp, b, F.mono h⟩
end
section
variable {X : Cx} {CX : CXT} {k : Nat} {ps : List Str} {sp : Sp} {E : XK} {x : Str} {p pos : Pos} {e : Expr} {es : List Expr} {t : TA}
/-- f(..) -/
def mCall (sp : Sp) (E : XK) (t : TA) : TE := fun σ H Q => t σ H fun vs H1 => sp vs H1 Q E
theorem nCall (C : Cal X.prog X.w X.K X.mg X.base CX k x ps sp) (hr : Room k X.A) (hx : Passes CX X E) (ha : PA X (e :: es) t) (hg : Gl X x := by rfl) (hdb : (x == ("__debug__" : Str)) = false := by decide)
    (he : starEach (e :: es) X.env = (false, eval e X.env) :: starEach es X.env := by rfl) (hpl : (backTo pos (starEach es X.env)).any (·.1) = false := by rfl) : PE X (.Call (.Name x p) (e :: es) [] pos) (mCall sp E t) := by
  obtain ⟨f, fd, hm, kp, b, F⟩ := C
  refine ⟨fun pins s σ H Q I h => ?_⟩
  refine (pe_call F hr hg hm kp b .nil hx ha hdb he hpl).run pins s σ H Q I ?_
  have e : (fun vs H1 => sp (vs ++ []) H1 Q E) = fun vs H1 => sp vs H1 Q E := by
    funext vs H1
    rw [List.append_nil]
  show t σ H fun vs H1 => sp (vs ++ []) H1 Q E
  rw [e]
  exact h
/-- f(..), what is raised told at the slots -/
def mCallS (sp : Sp) (E : L2.St → XK) (t : TA) : TE := fun σ H Q => t σ H fun vs H1 => sp vs H1 Q (E σ)
theorem nCallS {E : L2.St → XK} (C : Cal X.prog X.w X.K X.mg X.base CX k x ps sp) (hr : Room k X.A) (hx : ∀ σ, PassesAt CX X σ (E σ)) (ha : PA X (e :: es) t) (hg : Gl X x := by rfl) (hdb : (x == ("__debug__" : Str)) = false := by decide)
    (he : starEach (e :: es) X.env = (false, eval e X.env) :: starEach es X.env := by rfl) (hpl : (backTo pos (starEach es X.env)).any (·.1) = false := by rfl) : PE X (.Call (.Name x p) (e :: es) [] pos) (mCallS sp E t) := by
  obtain ⟨f, fd, hm, kp, b, F⟩ := C
  exact pe_callS F hr hg hm kp b hx ha hdb he hpl
theorem nCall0 (C : Cal X.prog X.w X.K X.mg X.base CX k x ps sp) (hr : Room k X.A) (hx : Passes CX X E) (hg : Gl X x := by rfl) (hdb : (x == ("__debug__" : Str)) = false := by decide) : PE X (.Call (.Name x p) [] [] pos) (fun _ H Q => sp [] H Q E) := by
  obtain ⟨f, fd, hm, kp, b, F⟩ := C
  refine ⟨fun pins s σ H Q I h => ?_⟩
  exact (pe_call0 F hr hg hm kp b .nil hx hdb).run pins s σ H Q I h
end
end NV

set_option Elab.async false
set_option linter.all false
set_option maxRecDepth 100000
set_option maxHeartbeats 4000000
/-! # the law's stream: a list of four, told by what is true of its one object -/
namespace NV
open PySem PySem.Spec PyProof.Rows L2
def Strm (p q : Addr) (h : Heap) : Prop := ∃ (a b c : Int) (t1 t2 t3 : Tok) (n : Nat), h.get? p = some { cls := .type "list", data := .seq #[.ref q, .int a t1, .int b t2, .int c t3] n } ∧ 0 ≤ b
/-- a stream to draw from stands at p -/
def StrmAt (H : Hp) (p : Addr) : Prop := ∃ (q : Addr) (ns : List Int), H p = some (.ext (Strm p q)) ∧ H q = some (.lst (ns.map V.int))
theorem StrmAt.mono {H H' : Hp} {p : Addr} (e : Evl.Ex H H') (h : StrmAt H p) : StrmAt H' p := by
  obtain ⟨q, ns, h1, h2⟩ := h
  exact ⟨q, ns, e _ _ h1, e _ _ h2⟩
section
variable {P : Program} {w : World} {K : PySem.W.Frag} {mg : Str → Option Value} {base : Heap}
theorem strm_of {H : Hp} {h : Heap} {p q : Addr} {a b c : Int} (x : ObjOk P w H h p (.lst [.ref q, .int a, .int b, .int c])) (hb : 0 ≤ b) : Strm p q h := by
  obtain ⟨_, its, n, r, e⟩ := x
  cases r with
  | cons r0 r => cases r with
    | cons r1 r => cases r with
      | cons r2 r => cases r with
        | cons r3 r =>
          cases r
          cases r0
          obtain ⟨t1, rfl⟩ := r1
          obtain ⟨t2, rfl⟩ := r2
          obtain ⟨t3, rfl⟩ := r3
          exact ⟨a, b, c, t1, t2, t3, n, e, hb⟩
theorem strm_ext {H : Hp} {h : Heap} {p q : Addr} (x : Strm p q h) : ObjOk P w H h p (.ext (Strm p q)) := by
  refine ⟨x, ?_, fun h1 h2 y k => ?_⟩
  · obtain ⟨a, b, c, t1, t2, t3, n, e, _⟩ := x
    exact ⟨_, e⟩
  · obtain ⟨a, b, c, t1, t2, t3, n, e, hb⟩ := y
    exact ⟨a, b, c, t1, t2, t3, n, k _ e, hb⟩
/-- what stands at p is told otherwise: neither telling is one that others lean on -/
theorem hok_tell {H : Hp} {h : Heap} {p : Addr} {o : HO} (ok : HOk P w H h) (no : ∀ y, H p ≠ some (.own y)) (nt : ∀ xs, H p ≠ some (.tup xs)) (new : ObjOk P w (upd H p o) h p o) : HOk P w (upd H p o) h := fun b u e => by
  by_cases hb : b = p
  · subst hb
    rw [upd_same] at e
    cases e
    exact new
  · rw [upd_ne hb] at e
    exact (ok b u e).stay (fun c v _ q => q) (fun c q => by rw [upd_ne (fun z => by rw [z] at q; exact no _ q)]; exact q) (fun c xs q => by rw [upd_ne (fun z => by rw [z] at q; exact nt _ q)]; exact q)
/-- a def that hands back, beside what it promises, a list of four: it stands as a stream from there on -/
theorem Cal.seal {k : Nat} {x : Str} {ps : List Str} {sp sp' : Sp} (C : Cal P w K mg base CX0 k x ps sp)
    (h : ∀ vs H Q E, sp' vs H Q E → sp vs H (fun v H' => ∃ (p q : Addr) (a b c : Int), H' p = some (.lst [.ref q, .int a, .int b, .int c]) ∧ 0 ≤ b ∧ Q v (upd H' p (.ext (Strm p q)))) E) : Cal P w K mg base CX0 k x ps sp' := by
  obtain ⟨f, fd, hm, kp, bd, F⟩ := C
  refine ⟨f, fd, hm, kp, bd, fun vs H Q E q => F.len _ _ _ _ (h _ _ _ _ q), fun A outer s H args us vs Q E hr he hb hv hs => codeAny_mono (F.run A outer s H args us vs _ E hr he hb hv (h _ _ _ _ hs)) fun r s' hq => ?_⟩
  cases r with
  | error e => exact hq
  | ok fl =>
    cases fl with
    | ret u =>
      obtain ⟨v, H', os, bare, un, hok, rv, p, q, a, b, c, hp, hb0, qq⟩ := hq
      have neS : ∀ d, H' d = none → d ≠ p := fun d e z => by rw [z, hp] at e; cases e
      refine ⟨v, upd H' p (.ext (Strm p q)), os, bare, ⟨un.keep, un.slot, fun d o e n hx => ?_, un.there, fun d xs e => ?_, fun d o y e => ?_, fun d tb e => ?_⟩, ?_, rv, qq⟩
      · have n' := un.free d o e n hx
        rw [upd_ne (neS d n')]
        exact n'
      · have z := un.tups d xs e
        rw [upd_ne (fun y => by rw [y, hp] at z; cases z)]
        exact z
      · have z := un.frzs d o y e
        rw [upd_ne (fun y => by rw [y, hp] at z; cases z)]
        exact z
      · obtain ⟨m, z⟩ := un.tbls d tb e
        exact ⟨m, by rw [upd_ne (fun y => by rw [y, hp] at z; cases z)]; exact z⟩
      · exact hok_tell hok (fun y e => by rw [hp] at e; cases e) (fun y e => by rw [hp] at e; cases e) (strm_ext (strm_of (hok p _ hp) hb0))
    | next => exact hq
    | brk => exact hq
    | cont => exact hq
/-- a def that draws from a stream: the list of four is seen within it alone -/
theorem Cal.unseal {k : Nat} {x : Str} {ps : List Str} {sp sp' : Sp} (C : Cal P w K mg base CX0 k x ps sp)
    (hl : ∀ vs H Q E, sp' vs H Q E → vs.length = ps.length)
    (h : ∀ vs H Q E, sp' vs H Q E → ∃ p, (StrmAt H p) ∧ ∀ (q : Addr) (ns : List Int) (a b c : Int), H p = some (.ext (Strm p q)) → H q = some (.lst (ns.map V.int)) → 0 ≤ b →
      sp vs (upd H p (.lst [.ref q, .int a, .int b, .int c])) (fun v H' => Q v H ∧ ∃ (a' b' c' : Int), 0 ≤ b' ∧ H' = upd (upd H p (.lst [.ref q, .int a, .int b, .int c])) p (.lst [.ref q, .int a', .int b', .int c'])) E) : Cal P w K mg base CX0 k x ps sp' := by
  obtain ⟨f, fd, hm, kp, bd, F⟩ := C
  refine ⟨f, fd, hm, kp, bd, hl, fun A outer s H args us vs Q E hr he hb hv hs => ?_⟩
  obtain ⟨p, ⟨q, ns, hp, hq⟩, hs⟩ := h _ _ _ _ hs
  obtain ⟨⟨a, b, c, t1, t2, t3, n, hg, hb0⟩, _, _⟩ := he.hok p _ hp
  have hs := hs q ns a b c hp hq hb0
  have neS : ∀ d, H d = none → d ≠ p := fun d e z => by rw [z, hp] at e; cases e
  have he1 : Env0 P w K mg base A outer s (upd H p (.lst [.ref q, .int a, .int b, .int c])) := by
    refine ⟨he.frames, he.mod, fun d o e => ?_, he.bsz, he.funs, fun d hd => ?_, ?_, he.bare⟩
    · obtain ⟨e1, e2⟩ := he.bs d o e
      exact ⟨e1, by rw [upd_ne (neS d e2)]; exact e2⟩
    · have e2 := he.frf d hd
      rw [upd_ne (neS d e2)]
      exact e2
    · exact hok_tell he.hok (fun y e => by rw [hp] at e; cases e) (fun y e => by rw [hp] at e; cases e)
        ⟨by show 4 ≤ sizeLine; decide, _, n, .cons rfl (.cons ⟨t1, rfl⟩ (.cons ⟨t2, rfl⟩ (.cons ⟨t3, rfl⟩ .nil))), hg⟩
  refine codeAny_mono (F.run A outer s _ args us vs _ E hr he1 hb hv hs) fun r s' hq2 => ?_
  cases r with
  | error e => exact hq2
  | ok fl =>
    cases fl with
    | ret u =>
      obtain ⟨v, H', os, bare, un, hok, rv, qq, a', b', c', hb1, rfl⟩ := hq2
      rw [upd_upd] at hok un
      refine ⟨v, H, os, bare, ⟨fun d o e n => un.keep d o e (by rw [upd_ne (neS d n)]; exact n), fun d o e n => un.slot d o e (by rw [upd_ne (neS d n)]; exact n), fun d o e n hx => n, un.there, fun d xs e => e, fun d o y e => e, fun d tb e => ⟨#[], by rw [e]; simp⟩⟩, ?_, rv, qq⟩
      have x := hok p _ upd_same
      have y := hok_tell (o := .ext (Strm p q)) hok (fun y e => by rw [upd_same] at e; cases e) (fun y e => by rw [upd_same] at e; cases e) (strm_ext (strm_of x hb1))
      rw [upd_upd] at y
      have z : upd H p (.ext (Strm p q)) = H := by
        funext d
        unfold upd
        by_cases hd : d = p
        · rw [if_pos hd, hd, hp]
        · rw [if_neg hd]
      rw [z] at y
      exact y
    | next => exact hq2
    | brk => exact hq2
    | cont => exact hq2
end
end NV

set_option Elab.async false
set_option linter.all false
set_option maxRecDepth 100000
set_option maxHeartbeats 4000000
/-! # texts and trees -/
namespace NV
open PySem PySem.Spec PyProof.Rows L2
open Evl (Ex)
/-- a text by its signs -/
abbrev S (l : List Nat) : Str := ⟨l.toArray⟩
theorem S_append (a b : List Nat) : S a ++ S b = S (a ++ b) := by
  show (⟨a.toArray ++ b.toArray⟩ : Str) = ⟨(a ++ b).toArray⟩
  rw [List.append_toArray]
theorem S_len (a : List Nat) : (S a).length = a.length := rfl
theorem S_add_len (x y : Str) : (x ++ y).length = x.length + y.length := by
  obtain ⟨x, rfl⟩ : ∃ l, x = S l := ⟨x.cps.toList, rfl⟩
  obtain ⟨y, rfl⟩ : ∃ l, y = S l := ⟨y.cps.toList, rfl⟩
  rw [S_append, S_len, List.length_append]
  rfl
theorem cut_len (z : Str) (lo hi : Option Int) : (cutS z lo hi).length ≤ z.length := by
  obtain ⟨l, rfl⟩ : ∃ l, z = S l := ⟨z.cps.toList, rfl⟩
  show (List.take _ (List.drop _ l)).length ≤ l.length
  rw [List.length_take, List.length_drop]
  omega
theorem S_inj {a b : List Nat} (h : S a = S b) : a = b := by
  have := congrArg (fun s : Str => s.cps.toList) h
  exact this
theorem S_cut (a : List Nat) (lo hi : Option Int) : cutS (S a) lo hi = S ((a.drop (HT.sIx a.length 0 lo)).take (HT.sIx a.length a.length hi - HT.sIx a.length 0 lo)) := rfl
theorem S_rep (a : List Nat) (n : Nat) : repS (S a) n = S (List.replicate n a).flatten := rfl
theorem S_of (s : Str) : ∃ l, s = S l := ⟨s.cps.toList, rfl⟩
/-- a stand-alone fact of new objects -/
theorem ne_new {H : Hp} {a b : Addr} {o : HO} (h : H a = some o) (h' : H b = none) : b ≠ a := (ne_of_none h h').symm
theorem okB {p : Prop} [Decidable p] {Q : VK} {H : Hp} (h : p) (k : Q (.bl true) H) : Q (.bl (decide p)) H := by
  rw [decide_eq_true h]
  exact k
theorem iteB {b : Bool} {A B : Prop} (h1 : b = true → A) (h2 : b = false → B) : if b = true then A else B := by
  cases b with
  | true => exact h1 rfl
  | false => exact h2 rfl
theorem iteD {p : Prop} [Decidable p] {A B : Prop} (h1 : p → A) (h2 : ¬ p → B) : if decide p = true then A else B := by
  by_cases h : p
  · rw [decide_eq_true h]; exact h1 h
  · rw [decide_eq_false h]; exact h2 h
theorem iteN {p : Prop} [Decidable p] {A B : Prop} (h1 : ¬ p → A) (h2 : p → B) : if (!decide p) = true then A else B := by
  by_cases h : p
  · rw [decide_eq_true h]; exact h2 h
  · rw [decide_eq_false h]; exact h1 h
theorem iteI {i j : Int} {A B : Prop} (h1 : i = j → A) (h2 : ¬ i = j → B) : if decide (V.int i = V.int j) = true then A else B :=
  iteD (fun h => h1 (V.int.inj h)) (fun h => h2 fun e => h (by rw [e]))
theorem iteNI {i j : Int} {A B : Prop} (h1 : ¬ i = j → A) (h2 : i = j → B) : if (!decide (V.int i = V.int j)) = true then A else B :=
  iteN (fun h => h1 fun e => h (by rw [e])) (fun h => h2 (V.int.inj h))
theorem iteS {i j : Str} {A B : Prop} (h1 : i = j → A) (h2 : ¬ i = j → B) : if decide (V.str i = V.str j) = true then A else B :=
  iteD (fun h => h1 (V.str.inj h)) (fun h => h2 fun e => h (by rw [e]))
theorem upd_self {H : Hp} {p : Addr} {o : HO} (h : H p = some o) : upd H p o = H := by
  funext d
  unfold upd
  by_cases hd : d = p
  · rw [if_pos hd, hd, h]
  · rw [if_neg hd]
theorem atI_at {α : Type} {xs : List α} {i : Int} (h0 : 0 ≤ i) (h1 : i < xs.length) : ∃ h : i.toNat < xs.length, atI xs i = some xs[i.toNat] := by
  have h : i.toNat < xs.length := by omega
  refine ⟨h, ?_⟩
  have := atI_nat (xs := xs) (j := i.toNat) (List.getElem?_eq_getElem h)
  rw [Int.toNat_of_nonneg h0] at this
  exact this
theorem atI_int {ns : List Int} {i : Int} (h0 : 0 ≤ i) (h1 : i < (ns.map V.int).length) : ∃ z, atI (ns.map V.int) i = some (.int z) := by
  obtain ⟨h, e⟩ := atI_at (xs := ns.map V.int) h0 h1
  rw [List.getElem_map] at e
  exact ⟨_, e⟩
theorem pickI {xs : List V} {f : V → Bool} (h : xs.all f = true) {i : Int} (h0 : 0 ≤ i) (h1 : i < xs.length) : ∃ v, atI xs i = some v ∧ f v = true := by
  obtain ⟨hi, e⟩ := atI_at h0 h1
  exact ⟨_, e, List.all_eq_true.mp h _ (List.getElem_mem hi)⟩
theorem pick_ix {K : PySem.W.Frag} {H : Hp} {p : Addr} {xs : List V} {f : V → Bool} {i : Int} {Q : V → Prop} (hq : SqA K H p xs) (h : xs.all f = true) (h0 : 0 ≤ i) (h1 : i < xs.length) (k : ∀ v, f v = true → Q v) : ∃ xs v, SqA K H p xs ∧ atI xs i = some v ∧ Q v := by
  obtain ⟨v, e, hv⟩ := pickI h h0 h1
  exact ⟨xs, v, hq, e, k v hv⟩
theorem str_ix {z : Str} {n : Nat} {i : Int} {Q : Nat → Prop} (hn : z.cps.toList.length = n) (hz : n ≤ 100000) (h0 : 0 ≤ i) (h1 : i < n) (k : ∀ c, z.cps.toList[i.toNat]? = some c → Q c) : z.length ≤ sizeLine ∧ ∃ c, atI z.cps.toList i = some c ∧ Q c := by
  have hl : z.length = n := hn
  have hs : sizeLine = 16777216 := sizeLine_eq
  obtain ⟨hi, e⟩ := atI_at (xs := z.cps.toList) h0 (by rw [hn]; exact h1)
  exact ⟨by omega, _, e, k _ (List.getElem?_eq_getElem hi)⟩
theorem mem_ix {K : PySem.W.Frag} {H : Hp} {p : Addr} {xs : List V} {i : Int} {P Q : V → Prop} (hq : SqA K H p xs) (h0 : 0 ≤ i) (h1 : i < xs.length) (hP : ∀ v ∈ xs, P v) (k : ∀ v, P v → Q v) : ∃ xs v, SqA K H p xs ∧ atI xs i = some v ∧ Q v := by
  obtain ⟨hi, e⟩ := atI_at h0 h1
  exact ⟨xs, _, hq, e, k _ (hP _ (List.getElem_mem hi))⟩
theorem mem_of_get {α : Type} {xs : List α} {i : Nat} {x : α} (h : xs[i]? = some x) : x ∈ xs := by
  obtain ⟨hi, e⟩ := List.getElem?_eq_some_iff.mp h
  rw [← e]
  exact List.getElem_mem hi
theorem map_get {α β : Type} {f : α → β} {xs : List α} {i : Nat} {y : β} (h : (xs.map f)[i]? = some y) : ∃ x, xs[i]? = some x ∧ y = f x := by
  rw [List.getElem?_map] at h
  cases e : xs[i]? with
  | none => rw [e] at h; cases h
  | some u => rw [e] at h; exact ⟨u, rfl, (Option.some.inj h).symm⟩
/-! ### signs, trees -/
inductive Tr where
  | l
  | n (a b : Tr)
  deriving DecidableEq
def Tr.enc : Tr → List Nat
  | .l => [48]
  | .n a b => 49 :: (a.enc ++ b.enc)
def Tr.pairs : Tr → Nat
  | .l => 0
  | .n a b => a.pairs + b.pairs + 1
theorem Tr.enc_len : ∀ t : Tr, t.enc.length = 2 * t.pairs + 1
  | .l => rfl
  | .n a b => by
    have h1 := a.enc_len
    have h2 := b.enc_len
    simp only [Tr.enc, Tr.pairs, List.length_cons, List.length_append]
    omega
theorem Tr.enc_ne (t : Tr) : t.enc ≠ [] := by cases t <;> simp [Tr.enc]
theorem S_app1 (a : List Nat) : S a ++ ("1" : Str) = S (a ++ [49]) := S_append a [49]
theorem S_app0 (a : List Nat) : S a ++ ("0" : Str) = S (a ++ [48]) := S_append a [48]
/-- m trees are missing; how many behind these signs -/
def scan : Nat → List Nat → Option Nat
  | m, [] => some m
  | 0, _ :: _ => none
  | m + 1, c :: cs => if c = 49 then scan (m + 2) cs else if c = 48 then scan m cs else none
theorem scan_nil (m : Nat) : scan m [] = some m := by cases m <;> rfl
theorem scan_zero (c : Nat) (cs : List Nat) : scan 0 (c :: cs) = none := rfl
theorem scan_one (m : Nat) (cs : List Nat) : scan (m + 1) (49 :: cs) = scan (m + 2) cs := rfl
theorem scan_leaf (m : Nat) (cs : List Nat) : scan (m + 1) (48 :: cs) = scan m cs := rfl
theorem scan_other (m : Nat) {c : Nat} (cs : List Nat) (h1 : c ≠ 49) (h0 : c ≠ 48) : scan (m + 1) (c :: cs) = none := by
  show (if c = 49 then _ else if c = 48 then _ else none) = _
  rw [if_neg h1, if_neg h0]
theorem scan_append : ∀ (a b : List Nat) (m : Nat), scan m (a ++ b) = (scan m a).bind fun k => scan k b
  | [], b, m => by rw [List.nil_append, scan_nil]; rfl
  | c :: a, b, 0 => rfl
  | c :: a, b, m + 1 => by
    show (if c = 49 then scan (m + 2) (a ++ b) else if c = 48 then scan m (a ++ b) else none) = (if c = 49 then scan (m + 2) a else if c = 48 then scan m a else none).bind _
    by_cases h1 : c = 49
    · rw [if_pos h1, if_pos h1]; exact scan_append a b (m + 2)
    · rw [if_neg h1, if_neg h1]
      by_cases h0 : c = 48
      · rw [if_pos h0, if_pos h0]; exact scan_append a b m
      · rw [if_neg h0, if_neg h0]; rfl
theorem scan_enc : ∀ (t : Tr) (m : Nat) (r : List Nat), scan (m + 1) (t.enc ++ r) = scan m r
  | .l, m, r => rfl
  | .n a b, m, r => by
    show scan (m + 2) (a.enc ++ b.enc ++ r) = _
    rw [List.append_assoc, scan_enc a (m + 1), scan_enc b m]
theorem scan_enc1 (t : Tr) : scan 1 t.enc = some 0 := by
  have := scan_enc t 0 []
  rw [List.append_nil] at this
  rw [this]
  rfl
/-- what is read to its end is so many trees -/
theorem scan_trees : ∀ (s : List Nat) (m : Nat), scan m s = some 0 → ∃ ts : List Tr, ts.length = m ∧ s = (ts.map Tr.enc).flatten
  | [], m, h => by
    rw [scan_nil] at h
    cases h
    exact ⟨[], rfl, rfl⟩
  | c :: cs, 0, h => by cases h
  | c :: cs, m + 1, h => by
    have h' : (if c = 49 then scan (m + 2) cs else if c = 48 then scan m cs else none) = some 0 := h
    by_cases h1 : c = 49
    · rw [if_pos h1] at h'
      obtain ⟨ts, hl, e⟩ := scan_trees cs (m + 2) h'
      match ts, hl, e with
      | a :: b :: r, hl, e =>
        refine ⟨.n a b :: r, by simpa using hl, ?_⟩
        rw [e, h1]
        simp [Tr.enc, List.append_assoc]
    · rw [if_neg h1] at h'
      by_cases h0 : c = 48
      · rw [if_pos h0] at h'
        obtain ⟨ts, hl, e⟩ := scan_trees cs m h'
        refine ⟨.l :: ts, by simpa using hl, ?_⟩
        rw [e, h0]
        rfl
      · rw [if_neg h0] at h'
        cases h'
theorem scan_tree {s : List Nat} (h : scan 1 s = some 0) : ∃ t : Tr, s = t.enc := by
  obtain ⟨ts, hl, e⟩ := scan_trees s 1 h
  match ts, hl, e with
  | [t], _, e => exact ⟨t, by rw [e]; simp⟩
/-- a tree of at most 200,000 signs -/
def isTr (s : List Nat) : Bool := decide (s.length ≤ 200000) && decide (scan 1 s = some 0)
/-- what is_tree answers of a value -/
inductive TrAns (K : PySem.W.Frag) (H : Hp) : V → Bool → Prop
  | str {l : List Nat} (h : l.length ≤ 10000000) : TrAns K H (.str (S l)) (isTr l)
  | lst {a : Addr} (h : TyX K H (.ref a) (.type "list")) : TrAns K H (.ref a) false
  | tup {a : Addr} (h : TyX K H (.ref a) (.type "tuple")) : TrAns K H (.ref a) false
  | non : TrAns K H .non false
  | int (i : Int) : TrAns K H (.int i) false
  | bl (b : Bool) : TrAns K H (.bl b) false
theorem isTr_enc {t : Tr} (h : t.enc.length ≤ 200000) : isTr t.enc = true := by
  unfold isTr
  rw [scan_enc1, decide_eq_true h]
  rfl
theorem TrAns.tree {K : PySem.W.Frag} {H : Hp} {t : Tr} (h : t.enc.length ≤ 200000) : TrAns K H (.str (S t.enc)) true := by
  have := TrAns.str (K := K) (H := H) (l := t.enc) (by omega)
  rw [isTr_enc h] at this
  exact this
theorem tyx_ex {K : PySem.W.Frag} {H H' : Hp} (e : Ex H H') {v : V} {t : Value} (h : TyX K H v t) : TyX K H' v t := by
  cases h with
  | base h =>
    cases h with
    | non => exact .base .non
    | bl x => exact .base (.bl x)
    | int i => exact .base (.int i)
    | str x => exact .base (.str x)
    | flt x => exact .base (.flt x)
    | lst h => exact .base (.lst (e _ _ h))
    | frz h => exact .base (.frz (e _ _ h))
    | tup h => exact .base (.tup (e _ _ h))
    | dK h => exact .base (.dK (e _ _ h))
    | dT h => exact .base (.dT (e _ _ h))
    | ins h a b c d f => exact .base (.ins (e _ _ h) a b c d f)
  | byt b => exact .byt b
  | set h => exact .set (e _ _ h)
  | kList h c => exact .kList h c
  | kTuple h c => exact .kTuple h c
  | kDict h c => exact .kDict h c
  | fTuple h => exact .fTuple (e _ _ h)
  | fDict h => exact .fDict (e _ _ h)
theorem TrAns.mono {K : PySem.W.Frag} {H H' : Hp} (e : Ex H H') {v : V} {b : Bool} (h : TrAns K H v b) : TrAns K H' v b := by
  cases h with
  | str h => exact .str h
  | lst h => exact .lst (tyx_ex e h)
  | tup h => exact .tup (tyx_ex e h)
  | non => exact .non
  | int i => exact .int i
  | bl b => exact .bl b
theorem enc_inj : ∀ (t u : Tr) (r r' : List Nat), t.enc ++ r = u.enc ++ r' → t = u ∧ r = r'
  | .l, .l, r, r', h => by
    simp only [Tr.enc, List.cons_append, List.nil_append, List.cons.injEq, true_and] at h
    exact ⟨rfl, h⟩
  | .l, .n _ _, r, r', h => by simp [Tr.enc] at h
  | .n _ _, .l, r, r', h => by simp [Tr.enc] at h
  | .n a b, .n c d, r, r', h => by
    simp only [Tr.enc, List.cons_append, List.cons.injEq, true_and, List.append_assoc] at h
    obtain ⟨e1, h⟩ := enc_inj a c _ _ h
    obtain ⟨e2, h⟩ := enc_inj b d _ _ h
    exact ⟨by rw [e1, e2], h⟩
theorem enc_inj1 {t u : Tr} (h : t.enc = u.enc) : t = u := (enc_inj t u [] [] (by rw [h])).1
def tens (n : Nat) : List Nat := (List.replicate n [49, 48]).flatten ++ [48]
theorem flat_len (n : Nat) (l : List Nat) : (List.replicate n l).flatten.length = n * l.length := by
  induction n with
  | zero => simp
  | succ n ih => rw [List.replicate_succ, List.flatten_cons, List.length_append, ih, Nat.succ_mul, Nat.add_comm]
theorem tens_len (n : Nat) : (tens n).length = 2 * n + 1 := by
  unfold tens
  rw [List.length_append, flat_len]
  show n * 2 + 1 = _
  omega
/-- the number n as a tree -/
def numT : Nat → Tr
  | 0 => .l
  | n + 1 => .n .l (numT n)
theorem numT_enc : ∀ n, (numT n).enc = tens n
  | 0 => rfl
  | n + 1 => by
    show 49 :: ([48] ++ (numT n).enc) = _
    rw [numT_enc n]
    unfold tens
    rw [List.replicate_succ, List.flatten_cons, List.append_assoc]
    rfl
theorem tens_str (n : Nat) : repS ("10" : Str) n ++ ("0" : Str) = S (tens n) := S_append _ _
theorem tens_inj {n m : Nat} (h : tens n = tens m) : n = m := by
  have := congrArg List.length h
  rw [tens_len, tens_len] at this
  omega
def Tr.hd : Tr → Tr
  | .l => .l
  | .n a _ => a
def Tr.tl : Tr → Tr
  | .l => .l
  | .n _ b => b
theorem drop_head {α : Type} {l r : List α} {c : α} {j : Nat} (h : l.drop j = c :: r) : l[j]? = some c ∧ l.drop (j + 1) = r ∧ j < l.length := by
  have hj : j < l.length := by
    have := congrArg List.length h
    rw [List.length_drop, List.length_cons] at this
    omega
  rw [List.drop_eq_getElem_cons hj] at h
  injection h with h1 h2
  exact ⟨by rw [List.getElem?_eq_getElem hj, h1], h2, hj⟩
theorem end_step {l post : List Nat} {t : Tr} {r : List Tr} {j : Nat} (h : l.drop j = ((t :: r).map Tr.enc).flatten ++ post) :
    j < l.length ∧ ∃ c, l[j]? = some c ∧ ((c = 49 ∧ ∃ a b, l.drop (j + 1) = ((a :: b :: r).map Tr.enc).flatten ++ post) ∨ (c = 48 ∧ l.drop (j + 1) = (r.map Tr.enc).flatten ++ post)) := by
  rw [List.map_cons, List.flatten_cons] at h
  cases t with
  | l =>
    have h' : l.drop j = 48 :: ((r.map Tr.enc).flatten ++ post) := h
    obtain ⟨h1, h2, h3⟩ := drop_head h'
    exact ⟨h3, 48, h1, .inr ⟨rfl, h2⟩⟩
  | n a b =>
    have h' : l.drop j = 49 :: (a.enc ++ b.enc ++ (r.map Tr.enc).flatten ++ post) := h
    obtain ⟨h1, h2, h3⟩ := drop_head h'
    refine ⟨h3, 49, h1, .inl ⟨rfl, a, b, ?_⟩⟩
    rw [h2]
    simp [List.append_assoc]
theorem end_at {l pre t post : List Nat} {j : Nat} (hl : l = pre ++ t ++ post) (h : l.drop j = post) (hj : j ≤ l.length) : j = pre.length + t.length := by
  have h1 := congrArg List.length h
  have h2 := congrArg List.length hl
  rw [List.length_drop] at h1
  rw [List.length_append, List.length_append] at h2
  omega
theorem cut_mid (a b c : List Nat) : cutS (S (a ++ b ++ c)) (some (a.length : Nat)) (some ((a.length + b.length : Nat) : Int)) = S b := by
  rw [S_cut, HT.sIx_nat, HT.sIx_nat, List.length_append, List.length_append, Nat.min_eq_left (by omega), Nat.min_eq_left (by omega), Nat.add_sub_cancel_left, List.append_assoc, List.drop_left, List.take_left]
theorem cut_end (a b : List Nat) : cutS (S (a ++ b)) (some (a.length : Nat)) none = S b := by
  rw [S_cut, HT.sIx_nat, HT.sIx_none, List.length_append, Nat.min_eq_left (by omega), Nat.add_sub_cancel_left, List.drop_left, List.take_length]
theorem cut_start (a b : List Nat) : cutS (S (a ++ b)) none (some (a.length : Nat)) = S a := by
  rw [S_cut, HT.sIx_nat, HT.sIx_none, List.length_append, Nat.min_eq_left (by omega), Nat.sub_zero]
  show S ((a ++ b).take a.length) = S a
  rw [List.take_left]
theorem le_sum {x : Nat} : ∀ {l : List Nat}, x ∈ l → x ≤ l.sum
  | y :: l, h => by
    rw [List.sum_cons]
    rcases List.mem_cons.mp h with h | h
    · omega
    · have := le_sum h
      omega
/-! ### lists of trees -/
def listS (ls : List (List Nat)) : List Nat := (ls.map fun l => 49 :: l).flatten ++ [48]
def listT : List Tr → Tr
  | [] => .l
  | t :: r => .n t (listT r)
theorem listT_enc : ∀ ts : List Tr, (listT ts).enc = listS (ts.map Tr.enc)
  | [] => rfl
  | t :: r => by
    show 49 :: (t.enc ++ (listT r).enc) = _
    rw [listT_enc r]
    unfold listS
    simp
/-- every tree is a list -/
def Tr.items : Tr → List Tr
  | .l => []
  | .n a b => a :: b.items
theorem listT_items : ∀ t : Tr, listT t.items = t
  | .l => rfl
  | .n a b => by
    show Tr.n a (listT b.items) = _
    rw [listT_items b]
theorem items_listT : ∀ ts : List Tr, (listT ts).items = ts
  | [] => rfl
  | t :: r => by
    show t :: (listT r).items = _
    rw [items_listT r]
theorem join_S (ls : List (List Nat)) : Txt.join ("" : Str) (ls.map S) = S ls.flatten := by
  refine TL.ext_tl ?_
  rw [TL.join_eq, TL.tl_join]
  have e : (ls.map S).map TL.tl = ls := by
    rw [List.map_map]
    exact List.map_id _
  rw [e]
  show TL.joinL [] ls = ls.flatten
  have : ∀ ls : List (List Nat), TL.joinL [] ls = ls.flatten := by
    intro ls
    induction ls with
    | nil => rfl
    | cons p r ih =>
      cases r with
      | nil => simp [TL.joinL]
      | cons q r =>
        show p ++ ([] ++ TL.joinL [] (q :: r)) = _
        rw [ih]
        simp
  exact this ls
theorem sum_len (ls : List (List Nat)) : ((ls.map fun l => S (49 :: l)).map (·.length)).sum + 1 = (listS ls).length := by
  unfold listS
  rw [List.length_append, List.length_flatten, List.map_map, List.map_map]
  rfl
theorem take_map {α β : Type} {f : α → β} {ls : List α} {i : Nat} {l : α} (h : ls[i]? = some l) : (ls.take (i + 1)).map f = (ls.take i).map f ++ [f l] := by
  rw [List.take_add_one, h, List.map_append]
  rfl
/-- a for over a text's signs -/
theorem for_str {z : List Nat} {g : TG} {tb : TS} {D : Ends} {σ : L2.St} {H : Hp} (Pv : Nat → L2.St → Hp → Prop) (h0 : Pv 0 σ H)
    (hs : ∀ i c σ H, z[i]? = some c → Pv i σ H → g (.str (S [c])) σ H fun σ2 H2 => tb { D with nx := Pv (i + 1), ct := Pv (i + 1), bk := D.nx } σ2 H2) (hd : ∀ σ H, Pv z.length σ H → D.nx σ H) :
    ∃ W : Nat → Nat → L2.St → Hp → Prop, (∃ m, W 0 m σ H) ∧ ∀ i m σ H, W i m σ H →
      ((Its (S z)).stop i H ∧ D.nx σ H) ∨ ((Its (S z)).go i H ∧ ∃ N : L2.St → Hp → Prop, (∀ σ' H', N σ' H' → ∃ m', m' < m ∧ W (i + 1) m' σ' H') ∧ ∀ x H', (Its (S z)).yld i H x H' → g x σ H' fun σ2 H2 => tb { D with nx := N, ct := N, bk := D.nx } σ2 H2) := by
  refine ⟨fun i m s h => Pv i s h ∧ i ≤ z.length ∧ i + m = z.length, ⟨z.length, h0, Nat.zero_le _, by omega⟩, ?_⟩
  rintro i m s h ⟨p, hi, em⟩
  by_cases hlt : i < z.length
  · refine .inr ⟨show i < (S z).cps.size from hlt, Pv (i + 1), fun s' h' p' => ⟨m - 1, by omega, p', hlt, by omega⟩, ?_⟩
    rintro x h' ⟨rfl, c, hc, rfl⟩
    have hc' : z[i]? = some c := by
      have e : (S z).cps[i]? = z[i]? := List.getElem?_toArray
      rw [← e]
      exact hc
    exact hs i c s _ hc' p
  · have e : i = z.length := by omega
    subst e
    exact .inl ⟨Nat.le_refl _, hd _ _ p⟩
theorem drop_cons {α : Type} {z : List α} {i : Nat} {c : α} (h : z[i]? = some c) : z.drop i = c :: z.drop (i + 1) := by
  obtain ⟨hi, e⟩ := List.getElem?_eq_some_iff.mp h
  rw [List.drop_eq_getElem_cons hi, e]
/-! ### a law's end -/
def spLaw (K : PySem.W.Frag) (_ : Str → Option Value) : Sp := fun vs H Q _ => ∃ (a : Addr) (ns : List Int), vs = [.ref a] ∧ SqL K H a (ns.map V.int) ∧ ns.length ≤ 63 ∧ ∀ H', Q (.bl true) H'
theorem walk_law {l : PySem.W.OpenLaw} {k : Nat} {q : Program} {loose : List Str} {XP : (Str → Option Value) → Heap → Prop} {YP : World → Heap → Prop} {d : DefRec} {K : Params → PySem.W.Frag} (hn : l.most = some 63) (hdf : d.params.defaults = []) (hk : k ≤ 60)
    (hY : ∀ (w : World) (h : Heap), YP w h → (K w.params).In h)
    (F : ∀ (w : World) (mg : Str → Option Value) (fa : Addr) (h : Heap), (K w.params).In h → h.Ns mainGlobals mg → mg d.name = some (.ref fa) →
      ∃ fd : FuncData, (∀ (s : Shared) (u : Value), BindsTo s fd ⟨[u], []⟩ [("_law_script", u)]) ∧ ∀ base : Heap, (K w.params).In base → base.Ns mainGlobals mg → FnOk l.prog w (K w.params) mg base CX0 k fa fd ["_law_script"] (spLaw (K w.params) mg)) :
    PySem.W.WalkO q loose XP YP l.row.toRowW d [] (fun f vs => PySem.call f vs) :=
  L2.walk_of (n := 63) (k := k) (x := "_law_script") (CX := fun _ => CX0) (sp := fun w => fun vs H Q _ => ∃ (a : Addr) (ns : List Int), vs = [.ref a] ∧ SqL (K w.params) H a (ns.map V.int) ∧ ns.length ≤ 63 ∧ ∀ H', Q (.bl true) H') hn (by decide) hdf (Room.mono (show Room 60 callerA from ⟨rfl, by decide, by decide⟩) hk) hY F (fun _ _ a ns hl _ hS => ⟨a, ns, rfl, hS, hl, fun _ => rfl⟩) fun _ _ _ _ _ z => z
end NV

set_option Elab.async false
set_option linter.all false
set_option maxRecDepth 100000
set_option maxHeartbeats 4000000
/-! # data: lists and tuples of texts and ints -/
namespace NV
open PySem PySem.Spec PyProof.Rows L2
open Evl (Ex)
mutual
theorem Dp.mono {K : PySem.W.Frag} {H H' : Hp} (e : Ex H H') : ∀ (d : PyData) {v : V}, Dp K H v d → Dp K H' v d
  | .none, _, h => by cases h; exact .non
  | .bool b, _, h => by cases h; exact .bl b
  | .int i, _, h => by cases h; exact .int i
  | .str x, _, h => by cases h; exact .str x
  | .list ds, _, h => by
    cases h with
    | lst hs ha => exact .lst (Evl.ex_l e hs) (DpAll.mono e ds ha)
  | .tuple ds, _, h => by
    cases h with
    | tup hs ha => exact .tup (Evl.ex_t e hs) (DpAll.mono e ds ha)
  | .dict _, _, h => by cases h
theorem DpAll.mono {K : PySem.W.Frag} {H H' : Hp} (e : Ex H H') : ∀ (ds : List PyData) {vs : List V}, DpAll K H vs ds → DpAll K H' vs ds
  | [], _, h => by cases h; exact .nil
  | d :: ds, _, h => by
    cases h with
    | cons h1 h2 => exact .cons (Dp.mono e d h1) (DpAll.mono e ds h2)
end
/-! no bools, no dicts, good texts -/
mutual
def nb : PyData → Bool
  | .none => true
  | .bool _ => false
  | .int _ => true
  | .str x => x.cps.all (· < 0x110000)
  | .list xs => nbAll xs
  | .tuple xs => nbAll xs
  | .dict _ => false
def nbAll : List PyData → Bool
  | [] => true
  | x :: xs => nb x && nbAll xs
end
mutual
theorem nb_lay : ∀ d : PyData, nb d = true → d.canLay0 = true
  | .none, _ => rfl
  | .bool _, h => by cases h
  | .int _, _ => rfl
  | .str x, h => h
  | .list xs, h => nbAll_lay xs h
  | .tuple xs, h => nbAll_lay xs h
  | .dict _, h => by cases h
theorem nbAll_lay : ∀ ds : List PyData, nbAll ds = true → PyData.canLayAll0 ds = true
  | [], _ => rfl
  | x :: xs, h => by
    have h' : (nb x && nbAll xs) = true := h
    rw [Bool.and_eq_true] at h'
    show (x.canLay0 && PyData.canLayAll0 xs) = true
    rw [nb_lay x h'.1, nbAll_lay xs h'.2]
    rfl
end
mutual
theorem eqv_nb : ∀ d e : PyData, nb d = true → nb e = true → (PyData.eqv d e = true ↔ d = e)
  | .none, e, _, h => by cases e <;> simp [PyData.eqv]
  | .bool _, _, h, _ => by cases h
  | .int i, e, _, h => by cases e <;> first | (simp [PyData.eqv]; done) | (cases h)
  | .str x, e, _, h => by cases e <;> first | (simp [PyData.eqv]; done) | (cases h)
  | .list xs, e, hx, h => by
    cases e with
    | list ys =>
      show PyData.eqvAll xs ys = true ↔ _
      rw [eqvAll_nb xs ys hx h]
      exact ⟨fun q => by rw [q], fun q => PyData.list.inj q⟩
    | bool _ => cases h
    | dict _ => cases h
    | _ => simp [PyData.eqv]
  | .tuple xs, e, hx, h => by
    cases e with
    | tuple ys =>
      show PyData.eqvAll xs ys = true ↔ _
      rw [eqvAll_nb xs ys hx h]
      exact ⟨fun q => by rw [q], fun q => PyData.tuple.inj q⟩
    | bool _ => cases h
    | dict _ => cases h
    | _ => simp [PyData.eqv]
  | .dict _, _, h, _ => by cases h
theorem eqvAll_nb : ∀ xs ys : List PyData, nbAll xs = true → nbAll ys = true → (PyData.eqvAll xs ys = true ↔ xs = ys)
  | [], [], _, _ => by simp [PyData.eqvAll]
  | [], _ :: _, _, _ => by simp [PyData.eqvAll]
  | _ :: _, [], _, _ => by simp [PyData.eqvAll]
  | x :: xs, y :: ys, hx, hy => by
    have hx' : (nb x && nbAll xs) = true := hx
    have hy' : (nb y && nbAll ys) = true := hy
    rw [Bool.and_eq_true] at hx' hy'
    show (PyData.eqv x y && PyData.eqvAll xs ys) = true ↔ _
    rw [Bool.and_eq_true, eqv_nb x y hx'.1 hy'.1, eqvAll_nb xs ys hx'.2 hy'.2]
    exact ⟨fun q => by rw [q.1, q.2], fun q => by injection q with a b; exact ⟨a, b⟩⟩
end
theorem eqv_dec {d e : PyData} {p : Prop} [Decidable p] (hd : nb d = true) (he : nb e = true) (h : d = e ↔ p) : PyData.eqv d e = decide p := by
  have := eqv_nb d e hd he
  by_cases q : p
  · rw [decide_eq_true q, this.mpr (h.mpr q)]
  · rw [decide_eq_false q]
    cases z : PyData.eqv d e with
    | false => rfl
    | true => exact absurd (h.mp (this.mp z)) q
theorem shaped_of {d : PyData} (h : nb d = true) (hd : d.depth ≤ 64) : SeqAt.shaped d = true := by
  show (d.canLay0 && decide (d.depth ≤ 64)) = true
  rw [nb_lay d h, decide_eq_true hd]
  rfl
/-- signs that a text may have -/
def sOk (l : List Nat) : Bool := l.all (· < 0x110000)
theorem nb_S (l : List Nat) : nb (.str (S l)) = sOk l := by
  show (l.toArray.all fun x => decide (x < 0x110000)) = _
  rw [List.all_toArray]
  rfl
theorem sOk_enc : ∀ t : Tr, sOk t.enc = true
  | .l => rfl
  | .n a b => by
    have h1 := sOk_enc a
    have h2 := sOk_enc b
    unfold sOk at *
    show (decide (49 < 0x110000) && (a.enc ++ b.enc).all _) = true
    rw [List.all_append, h1, h2]
    rfl
end NV

namespace NV
open PySem PySem.Spec PyProof.Rows L2
open Evl (Ex)
def top (i : Nat) : Stmt := PySem.Challenge.pw_narcissus_k04_lists.main.body.getD i (.Pass ⟨0, 0, 0, 0⟩)
abbrev s_L_end : Stmt := top 14
theorem sc_L_end : FnScope ["_law_tree_here", "_law_at", "_law_missing"] ["_law_tree_here", "_law_at"] (defScope s_L_end) := ⟨rfl, rfl, rfl, by decide +kernel, rfl, by decide +kernel, by decide +kernel⟩
abbrev s_L_tail : Stmt := top 16
theorem sc_L_tail : FnScope ["_law_tree_here"] ["_law_tree_here"] (defScope s_L_tail) := ⟨rfl, rfl, rfl, by decide +kernel, rfl, by decide +kernel, by decide +kernel⟩
abbrev s_L_head : Stmt := top 15
theorem sc_L_head : FnScope ["_law_tree_here"] ["_law_tree_here"] (defScope s_L_head) := ⟨rfl, rfl, rfl, by decide +kernel, rfl, by decide +kernel, by decide +kernel⟩
abbrev s_L_items : Stmt := top 19
theorem sc_L_items : FnScope ["_law_tree_here", "_law_found"] ["_law_tree_here"] (defScope s_L_items) := ⟨rfl, rfl, rfl, by decide +kernel, rfl, by decide +kernel, by decide +kernel⟩
abbrev s_trees_end_of : Stmt := top 6
theorem sc_trees_end_of : FnScope ["tree", "start", "missing", "at"] ["tree", "start"] (defScope s_trees_end_of) := ⟨rfl, rfl, rfl, by decide +kernel, rfl, by decide +kernel, by decide +kernel⟩
abbrev s_trees_items_of : Stmt := top 9
theorem sc_trees_items_of : FnScope ["tree", "found", "at", "end"] ["tree"] (defScope s_trees_items_of) := ⟨rfl, rfl, rfl, by decide +kernel, rfl, by decide +kernel, by decide +kernel⟩
abbrev s_L_draw : Stmt := top 12
theorem sc_L_draw : FnScope ["_law_stream_here", "_law_many", "_law_value"] ["_law_stream_here", "_law_many"] (defScope s_L_draw) := ⟨rfl, rfl, rfl, by decide +kernel, rfl, by decide +kernel, by decide +kernel⟩
abbrev s_L_tree : Stmt := top 13
theorem sc_L_tree : FnScope ["_law_stream_here", "_law_pairs", "_law_signs", "_law_missing"] ["_law_stream_here", "_law_pairs"] (defScope s_L_tree) := ⟨rfl, rfl, rfl, by decide +kernel, rfl, by decide +kernel, by decide +kernel⟩
abbrev s_L_given : Stmt := top 17
theorem sc_L_given : FnScope ["_law_told_here"] ["_law_told_here"] (defScope s_L_given) := ⟨rfl, rfl, rfl, by decide +kernel, rfl, by decide +kernel, by decide +kernel⟩
abbrev s_trees_checked : Stmt := top 7
theorem sc_trees_checked : FnScope ["tree"] ["tree"] (defScope s_trees_checked) := ⟨rfl, rfl, rfl, by decide +kernel, rfl, by decide +kernel, by decide +kernel⟩
abbrev s_trees_list_of : Stmt := top 8
theorem sc_trees_list_of : FnScope ["trees", "tree"] ["trees"] (defScope s_trees_list_of) := ⟨rfl, rfl, rfl, by decide +kernel, rfl, by decide +kernel, by decide +kernel⟩
abbrev s_L_told : Stmt := top 18
theorem sc_L_told : FnScope ["_law_rows"] ["_law_rows"] (defScope s_L_told) := ⟨rfl, rfl, rfl, by decide +kernel, rfl, by decide +kernel, by decide +kernel⟩
abbrev s_L_stream : Stmt := top 11
theorem sc_L_stream : FnScope ["_law_script", "_law_mixed", "_law_cell"] ["_law_script"] (defScope s_L_stream) := ⟨rfl, rfl, rfl, by decide +kernel, rfl, by decide +kernel, by decide +kernel⟩
abbrev s_L_law : Stmt := top 20
theorem sc_L_law : FnScope ["_law_script", "_law_stream_here", "_law_rows", "_law_k", "_law_due", "_law_row", "_law_given_here", "_law_tree_here", "_law_found"] ["_law_script"] (defScope s_L_law) := ⟨rfl, rfl, rfl, by decide +kernel, rfl, by decide +kernel, by decide +kernel⟩
structure Txt (K : PySem.W.Frag) (mg : Str → Option Value) : Prop where
  x_NarcissusError : ExcK K mg "NarcissusError"
  x_TooLarge : ExcK K mg "TooLarge"
  e_NarcissusError_TooLarge : ExM K mg "NarcissusError" "TooLarge" false
  e_TooLarge_TooLarge : ExM K mg "TooLarge" "TooLarge" true
  m_LEAF : ∃ t, mg "LEAF" = some (.str "0" t)
  m_MOST_TREE : ∃ t, mg "MOST_TREE" = some (.int 200000 t)
  n_abs : mg "abs" = none
  n_int : mg "int" = none
  n_isinstance : mg "isinstance" = none
  n_len : mg "len" = none
  n_list : mg "list" = none
  n_range : mg "range" = none
  n_tuple : mg "tuple" = none
  f_L_end : Fn K mg "_law_end" "_law_end" s_L_end ["_law_tree_here", "_law_at"]
  f_L_tail : Fn K mg "_law_tail" "_law_tail" s_L_tail ["_law_tree_here"]
  f_L_head : Fn K mg "_law_head" "_law_head" s_L_head ["_law_tree_here"]
  f_L_items : Fn K mg "_law_items" "_law_items" s_L_items ["_law_tree_here"]
  f_trees_end_of : Fn K mg "end_of" "end_of" s_trees_end_of ["tree", "start"]
  f_trees_items_of : Fn K mg "items_of" "items_of" s_trees_items_of ["tree"]
  f_L_draw : Fn K mg "_law_draw" "_law_draw" s_L_draw ["_law_stream_here", "_law_many"]
  f_L_tree : Fn K mg "_law_tree" "_law_tree" s_L_tree ["_law_stream_here", "_law_pairs"]
  f_L_given : Fn K mg "_law_given" "_law_given" s_L_given ["_law_told_here"]
  f_trees_checked : Fn K mg "checked" "checked" s_trees_checked ["tree"]
  f_trees_list_of : Fn K mg "list_of" "list_of" s_trees_list_of ["trees"]
  f_L_told : Fn K mg "_law_told" "_law_told" s_L_told ["_law_rows"]
  f_L_stream : Fn K mg "_law_stream" "_law_stream" s_L_stream ["_law_script"]
theorem txt_mk {K : PySem.W.Frag} {h : Heap} {mg : Str → Option Value} (X : K.In h) (G : h.Ns mainGlobals mg)
    {C1 : Addr} (a1 : PySem.W.nsIn K mainGlobals "NarcissusError" = some (some (.ref C1))) (x1 : PySem.W.excIn K C1 [.type "ValueError", .type "Exception", .type "BaseException", .type "object"] "ValueError.__new__" = true) (k1 : PySem.W.keepIn K (.ref C1) = true) (s1 : PySem.W.subIn K (.ref C1) (.type "BaseException") = some true) (t1 : PySem.W.typeIn K (.ref C1) = some (.type "type")) (i1 : PySem.W.isClsIn K C1 = true)
    {C2 : Addr} (a2 : PySem.W.nsIn K mainGlobals "TooLarge" = some (some (.ref C2))) (x2 : PySem.W.excIn K C2 [.type "ValueError", .type "Exception", .type "BaseException", .type "object"] "ValueError.__new__" = true) (k2 : PySem.W.keepIn K (.ref C2) = true) (s2 : PySem.W.subIn K (.ref C2) (.type "BaseException") = some true) (t2 : PySem.W.typeIn K (.ref C2) = some (.type "type")) (i2 : PySem.W.isClsIn K C2 = true)
    (p3 : PySem.W.subIn K (.ref C1) (.ref C2) = some false)
    (p4 : PySem.W.subIn K (.ref C2) (.ref C2) = some true)
    {tk5 : Tok} (z5 : PySem.W.nsIn K mainGlobals "LEAF" = some (some (.str "0" tk5)))
    {tk6 : Tok} (z6 : PySem.W.nsIn K mainGlobals "MOST_TREE" = some (some (.int 200000 tk6)))
    (z7 : PySem.W.nsIn K mainGlobals "abs" = some none)
    (z8 : PySem.W.nsIn K mainGlobals "int" = some none)
    (z9 : PySem.W.nsIn K mainGlobals "isinstance" = some none)
    (z10 : PySem.W.nsIn K mainGlobals "len" = some none)
    (z11 : PySem.W.nsIn K mainGlobals "list" = some none)
    (z12 : PySem.W.nsIn K mainGlobals "range" = some none)
    (z13 : PySem.W.nsIn K mainGlobals "tuple" = some none)
    {f14 : Addr} {od14 an14 : Option Addr} {sl14 : Array (Option Value)} {oc14 kV14 dc14 pm14 cd14 ct14 : Value}
    (a14 : PySem.W.nsIn K mainGlobals "_law_end" = some (some (.ref f14))) (l14 : K.lookup f14 = some ⟨oc14, od14, .func (PySem.W.fnOf "_law_end" "_law_end" (defArgs s_L_end) (defBody s_L_end) (defScope s_L_end) .none kV14 dc14 pm14 an14 cd14 ct14), sl14⟩) (c14 : PySem.W.codeIn K cd14 "_law_end" = true) (k14 : PySem.W.keepIn K (.ref f14) = true)
    {f15 : Addr} {od15 an15 : Option Addr} {sl15 : Array (Option Value)} {oc15 kV15 dc15 pm15 cd15 ct15 : Value}
    (a15 : PySem.W.nsIn K mainGlobals "_law_tail" = some (some (.ref f15))) (l15 : K.lookup f15 = some ⟨oc15, od15, .func (PySem.W.fnOf "_law_tail" "_law_tail" (defArgs s_L_tail) (defBody s_L_tail) (defScope s_L_tail) .none kV15 dc15 pm15 an15 cd15 ct15), sl15⟩) (c15 : PySem.W.codeIn K cd15 "_law_tail" = true) (k15 : PySem.W.keepIn K (.ref f15) = true)
    {f16 : Addr} {od16 an16 : Option Addr} {sl16 : Array (Option Value)} {oc16 kV16 dc16 pm16 cd16 ct16 : Value}
    (a16 : PySem.W.nsIn K mainGlobals "_law_head" = some (some (.ref f16))) (l16 : K.lookup f16 = some ⟨oc16, od16, .func (PySem.W.fnOf "_law_head" "_law_head" (defArgs s_L_head) (defBody s_L_head) (defScope s_L_head) .none kV16 dc16 pm16 an16 cd16 ct16), sl16⟩) (c16 : PySem.W.codeIn K cd16 "_law_head" = true) (k16 : PySem.W.keepIn K (.ref f16) = true)
    {f17 : Addr} {od17 an17 : Option Addr} {sl17 : Array (Option Value)} {oc17 kV17 dc17 pm17 cd17 ct17 : Value}
    (a17 : PySem.W.nsIn K mainGlobals "_law_items" = some (some (.ref f17))) (l17 : K.lookup f17 = some ⟨oc17, od17, .func (PySem.W.fnOf "_law_items" "_law_items" (defArgs s_L_items) (defBody s_L_items) (defScope s_L_items) .none kV17 dc17 pm17 an17 cd17 ct17), sl17⟩) (c17 : PySem.W.codeIn K cd17 "_law_items" = true) (k17 : PySem.W.keepIn K (.ref f17) = true)
    {f18 : Addr} {od18 an18 : Option Addr} {sl18 : Array (Option Value)} {oc18 kV18 dc18 pm18 cd18 ct18 : Value}
    (a18 : PySem.W.nsIn K mainGlobals "end_of" = some (some (.ref f18))) (l18 : K.lookup f18 = some ⟨oc18, od18, .func (PySem.W.fnOf "end_of" "end_of" (defArgs s_trees_end_of) (defBody s_trees_end_of) (defScope s_trees_end_of) .none kV18 dc18 pm18 an18 cd18 ct18), sl18⟩) (c18 : PySem.W.codeIn K cd18 "end_of" = true) (k18 : PySem.W.keepIn K (.ref f18) = true)
    {f19 : Addr} {od19 an19 : Option Addr} {sl19 : Array (Option Value)} {oc19 kV19 dc19 pm19 cd19 ct19 : Value}
    (a19 : PySem.W.nsIn K mainGlobals "items_of" = some (some (.ref f19))) (l19 : K.lookup f19 = some ⟨oc19, od19, .func (PySem.W.fnOf "items_of" "items_of" (defArgs s_trees_items_of) (defBody s_trees_items_of) (defScope s_trees_items_of) .none kV19 dc19 pm19 an19 cd19 ct19), sl19⟩) (c19 : PySem.W.codeIn K cd19 "items_of" = true) (k19 : PySem.W.keepIn K (.ref f19) = true)
    {f20 : Addr} {od20 an20 : Option Addr} {sl20 : Array (Option Value)} {oc20 kV20 dc20 pm20 cd20 ct20 : Value}
    (a20 : PySem.W.nsIn K mainGlobals "_law_draw" = some (some (.ref f20))) (l20 : K.lookup f20 = some ⟨oc20, od20, .func (PySem.W.fnOf "_law_draw" "_law_draw" (defArgs s_L_draw) (defBody s_L_draw) (defScope s_L_draw) .none kV20 dc20 pm20 an20 cd20 ct20), sl20⟩) (c20 : PySem.W.codeIn K cd20 "_law_draw" = true) (k20 : PySem.W.keepIn K (.ref f20) = true)
    {f21 : Addr} {od21 an21 : Option Addr} {sl21 : Array (Option Value)} {oc21 kV21 dc21 pm21 cd21 ct21 : Value}
    (a21 : PySem.W.nsIn K mainGlobals "_law_tree" = some (some (.ref f21))) (l21 : K.lookup f21 = some ⟨oc21, od21, .func (PySem.W.fnOf "_law_tree" "_law_tree" (defArgs s_L_tree) (defBody s_L_tree) (defScope s_L_tree) .none kV21 dc21 pm21 an21 cd21 ct21), sl21⟩) (c21 : PySem.W.codeIn K cd21 "_law_tree" = true) (k21 : PySem.W.keepIn K (.ref f21) = true)
    {f22 : Addr} {od22 an22 : Option Addr} {sl22 : Array (Option Value)} {oc22 kV22 dc22 pm22 cd22 ct22 : Value}
    (a22 : PySem.W.nsIn K mainGlobals "_law_given" = some (some (.ref f22))) (l22 : K.lookup f22 = some ⟨oc22, od22, .func (PySem.W.fnOf "_law_given" "_law_given" (defArgs s_L_given) (defBody s_L_given) (defScope s_L_given) .none kV22 dc22 pm22 an22 cd22 ct22), sl22⟩) (c22 : PySem.W.codeIn K cd22 "_law_given" = true) (k22 : PySem.W.keepIn K (.ref f22) = true)
    {f23 : Addr} {od23 an23 : Option Addr} {sl23 : Array (Option Value)} {oc23 kV23 dc23 pm23 cd23 ct23 : Value}
    (a23 : PySem.W.nsIn K mainGlobals "checked" = some (some (.ref f23))) (l23 : K.lookup f23 = some ⟨oc23, od23, .func (PySem.W.fnOf "checked" "checked" (defArgs s_trees_checked) (defBody s_trees_checked) (defScope s_trees_checked) .none kV23 dc23 pm23 an23 cd23 ct23), sl23⟩) (c23 : PySem.W.codeIn K cd23 "checked" = true) (k23 : PySem.W.keepIn K (.ref f23) = true)
    {f24 : Addr} {od24 an24 : Option Addr} {sl24 : Array (Option Value)} {oc24 kV24 dc24 pm24 cd24 ct24 : Value}
    (a24 : PySem.W.nsIn K mainGlobals "list_of" = some (some (.ref f24))) (l24 : K.lookup f24 = some ⟨oc24, od24, .func (PySem.W.fnOf "list_of" "list_of" (defArgs s_trees_list_of) (defBody s_trees_list_of) (defScope s_trees_list_of) .none kV24 dc24 pm24 an24 cd24 ct24), sl24⟩) (c24 : PySem.W.codeIn K cd24 "list_of" = true) (k24 : PySem.W.keepIn K (.ref f24) = true)
    {f25 : Addr} {od25 an25 : Option Addr} {sl25 : Array (Option Value)} {oc25 kV25 dc25 pm25 cd25 ct25 : Value}
    (a25 : PySem.W.nsIn K mainGlobals "_law_told" = some (some (.ref f25))) (l25 : K.lookup f25 = some ⟨oc25, od25, .func (PySem.W.fnOf "_law_told" "_law_told" (defArgs s_L_told) (defBody s_L_told) (defScope s_L_told) .none kV25 dc25 pm25 an25 cd25 ct25), sl25⟩) (c25 : PySem.W.codeIn K cd25 "_law_told" = true) (k25 : PySem.W.keepIn K (.ref f25) = true)
    {f26 : Addr} {od26 an26 : Option Addr} {sl26 : Array (Option Value)} {oc26 kV26 dc26 pm26 cd26 ct26 : Value}
    (a26 : PySem.W.nsIn K mainGlobals "_law_stream" = some (some (.ref f26))) (l26 : K.lookup f26 = some ⟨oc26, od26, .func (PySem.W.fnOf "_law_stream" "_law_stream" (defArgs s_L_stream) (defBody s_L_stream) (defScope s_L_stream) .none kV26 dc26 pm26 an26 cd26 ct26), sl26⟩) (c26 : PySem.W.codeIn K cd26 "_law_stream" = true) (k26 : PySem.W.keepIn K (.ref f26) = true)
    : Txt K mg :=
  ⟨⟨C1, PySem.W.mg_of X G a1, x1, k1, s1, t1⟩,
   ⟨C2, PySem.W.mg_of X G a2, x2, k2, s2, t2⟩,
   exm_mk X G a1 a2 s2 i2 t2 p3,
   exm_mk X G a2 a2 s2 i2 t2 p4,
   ⟨_, PySem.W.mg_of X G z5⟩,
   ⟨_, PySem.W.mg_of X G z6⟩,
   PySem.W.mg_none_of X G z7,
   PySem.W.mg_none_of X G z8,
   PySem.W.mg_none_of X G z9,
   PySem.W.mg_none_of X G z10,
   PySem.W.mg_none_of X G z11,
   PySem.W.mg_none_of X G z12,
   PySem.W.mg_none_of X G z13,
   fn_mk X G a14 l14 c14 k14 (fun _ _ _ _ _ _ us hl => match us, hl with | [_, _], _ => rfl),
   fn_mk X G a15 l15 c15 k15 (fun _ _ _ _ _ _ us hl => match us, hl with | [_], _ => rfl),
   fn_mk X G a16 l16 c16 k16 (fun _ _ _ _ _ _ us hl => match us, hl with | [_], _ => rfl),
   fn_mk X G a17 l17 c17 k17 (fun _ _ _ _ _ _ us hl => match us, hl with | [_], _ => rfl),
   fn_mk X G a18 l18 c18 k18 (fun _ _ _ _ _ _ us hl => match us, hl with | [_, _], _ => rfl),
   fn_mk X G a19 l19 c19 k19 (fun _ _ _ _ _ _ us hl => match us, hl with | [_], _ => rfl),
   fn_mk X G a20 l20 c20 k20 (fun _ _ _ _ _ _ us hl => match us, hl with | [_, _], _ => rfl),
   fn_mk X G a21 l21 c21 k21 (fun _ _ _ _ _ _ us hl => match us, hl with | [_, _], _ => rfl),
   fn_mk X G a22 l22 c22 k22 (fun _ _ _ _ _ _ us hl => match us, hl with | [_], _ => rfl),
   fn_mk X G a23 l23 c23 k23 (fun _ _ _ _ _ _ us hl => match us, hl with | [_], _ => rfl),
   fn_mk X G a24 l24 c24 k24 (fun _ _ _ _ _ _ us hl => match us, hl with | [_], _ => rfl),
   fn_mk X G a25 l25 c25 k25 (fun _ _ _ _ _ _ us hl => match us, hl with | [_], _ => rfl),
   fn_mk X G a26 l26 c26 k26 (fun _ _ _ _ _ _ us hl => match us, hl with | [_], _ => rfl)⟩
def sp_L_end (K : PySem.W.Frag) (_ : Str → Option Value) : Sp := fun vs H Q _ => ∃ (pre : List Nat) (t : Tr) (post : List Nat), vs = [.str (S (pre ++ t.enc ++ post)), .int ((pre.length : Nat) : Int)] ∧ (pre ++ t.enc ++ post).length ≤ 1000000 ∧ Q (.int ((pre.length + t.enc.length : Nat) : Int)) H

section
variable {P : Program} {w : World} {K : PySem.W.Frag} {mg : Str → Option Value} {base : Heap}
theorem ok_L_end (T : Txt K mg) : Cal P w K mg base CX0 1 "_law_end" ["_law_tree_here", "_law_at"] (sp_L_end K mg) := by
  refine T.f_L_end.ok sc_L_end (fun vs H Q E h => (by obtain ⟨_, _, _, rfl, _⟩ := h; rfl)) (fun f cdv A outer s H vs Q E hr h => ⟨_, (pss_cons (ps_set (i := 2) sc_L_end.nd rfl (.inl rfl) pe_int)
      (pss_cons (ps_while PassesOwn.never (nCmp oGt (nv 2) pe_int (nomark _)) (pss_cons (ps_set (i := 2) sc_L_end.nd rfl (.inl rfl) (pe_op oSub (pe_op (oAdd (K := K)) (nv 2) pe_int) (pe_op (oMul (K := K)) pe_int (pe_callTy cInt (by rfl) T.n_int PyProof.Rows.boot_int (pa_cons (pe_cmpR (oEq (K := K) hr.units) (pe_ix (ixU (K := K)) (nv 0) (nv 1) (fun _ _ => rfl)) pe_str (nomark _)) pa_nil)))))
      (pss_one (ps_set (i := 1) sc_L_end.nd rfl (.inl rfl) (pe_op (oAdd (K := K)) (nv 1) pe_int)))))
      (pss_one (ps_ret (nv 1))))), ?_⟩)
  obtain ⟨pre, t, post, rfl, hlen, k⟩ := h
  have hz : sizeLine = 16777216 := sizeLine_eq
  generalize hl : pre ++ t.enc ++ post = l at hlen
  have hz' : (S l).length ≤ sizeLine := by rw [S_len]; omega
  refine ⟨fun m σ' H' => H' = H ∧ ∃ (ts : List Tr) (j : Nat), σ' = [some (.str (S l)), some (.int ((j : Nat) : Int)), some (.int ((ts.length : Nat) : Int))] ∧ l.drop j = (ts.map Tr.enc).flatten ++ post ∧ j ≤ l.length ∧ m = l.length - j, ⟨l.length - pre.length, rfl, [t], pre.length, rfl, ?_, ?_, rfl⟩, ?_⟩
  · rw [← hl, List.append_assoc, List.drop_left]
    simp
  · rw [← hl, List.append_assoc, List.length_append]; omega
  rintro m σ' H' ⟨rfl, ts, j, rfl, hd, hj, rfl⟩
  refine iteD (fun h0 => ?_) (fun h0 => ?_)
  · cases ts with
    | nil => exact absurd h0 (by simp)
    | cons t r =>
      obtain ⟨hj', c, hc, hcs⟩ := end_step hd
      have ha : atI (S l).cps.toList (j : Int) = some c := atI_nat hc
      refine ⟨fun σ2 H2 => H2 = H' ∧ ∃ (ts : List Tr) (i : Nat), σ2 = [some (.str (S l)), some (.int ((i : Nat) : Int)), some (.int ((ts.length : Nat) : Int))] ∧ l.drop i = (ts.map Tr.enc).flatten ++ post ∧ i ≤ l.length ∧ l.length - i < l.length - j, ?_, ?_⟩
      · rintro σ2 H2 ⟨rfl, ts, i, rfl, h1, h2, h3⟩
        exact ⟨_, h3, rfl, ts, i, rfl, h1, h2, rfl⟩
      · refine ⟨hz', c, ha, ?_⟩
        rcases hcs with ⟨rfl, a, b, h2⟩ | ⟨rfl, h2⟩
        · refine ⟨.inl ⟨by decide, by decide⟩, rfl, a :: b :: r, j + 1, ?_, h2, hj', by omega⟩
          show [some (V.str (S l)), some (.int ((j : Int) + 1)), some (.int (((r.length + 1 : Nat) : Int) + 1 - 2 * 0))] = _
          rw [show ((r.length + 1 : Nat) : Int) + 1 - 2 * 0 = (((a :: b :: r).length : Nat) : Int) by simp only [List.length_cons]; omega, show (j : Int) + 1 = ((j + 1 : Nat) : Int) by omega]
        · refine ⟨.inl ⟨by decide, by decide⟩, rfl, r, j + 1, ?_, h2, hj', by omega⟩
          show [some (V.str (S l)), some (.int ((j : Int) + 1)), some (.int (((r.length + 1 : Nat) : Int) + 1 - 2 * 1))] = _
          rw [show ((r.length + 1 : Nat) : Int) + 1 - 2 * 1 = ((r.length : Nat) : Int) by omega, show (j : Int) + 1 = ((j + 1 : Nat) : Int) by omega]
  · have e0 : ts = [] := by
      cases ts with
      | nil => rfl
      | cons t r => exact absurd (show (0 : Int) < ((r.length + 1 : Nat) : Int) by omega) h0
    subst e0
    have : j = pre.length + t.enc.length := end_at hl.symm hd hj
    rw [← this] at k
    exact k
end
def sp_L_tail (K : PySem.W.Frag) (_ : Str → Option Value) : Sp := fun vs H Q _ => ∃ (t : Tr), vs = [.str (S t.enc)] ∧ t.enc.length ≤ 1000000 ∧ Q (.str (S t.tl.enc)) H

section
variable {P : Program} {w : World} {K : PySem.W.Frag} {mg : Str → Option Value} {base : Heap}
theorem ok_L_tail (T : Txt K mg)
    (c_L_end : Cal P w K mg base CX0 1 "_law_end" ["_law_tree_here", "_law_at"] (sp_L_end K mg)) : Cal P w K mg base CX0 2 "_law_tail" ["_law_tree_here"] (sp_L_tail K mg) := by
  refine T.f_L_tail.ok sc_L_tail (fun vs H Q E h => (by obtain ⟨_, rfl, _⟩ := h; rfl)) (fun f cdv A outer s H vs Q E hr h => ⟨_, (pss_cons (ps_if (nCmp (oEq (K := K) hr.units) (nv 0) pe_str (nomark _)) (pss_one (ps_ret pe_str)) pss_nil)
      (pss_one (ps_ret (pe_slice (slU (K := K)) (nv 0) (po_some (nCall c_L_end (hr.mono (by decide)) pass0 (pa_cons (nv 0) (pa_cons pe_int pa_nil)))) po_none)))), ?_⟩)
  obtain ⟨t, rfl, hlen, k⟩ := h
  have hz : sizeLine = 16777216 := sizeLine_eq
  cases t with
  | l => exact k
  | n a b =>
    refine iteS (fun e => ?_) (fun e => ?_)
    · have := S_inj (a := (Tr.n a b).enc) (b := [48]) e
      simp [Tr.enc] at this
    · refine ⟨[49], a, b.enc, rfl, hlen, _, rfl, by rw [S_len]; omega, ?_⟩
      have := cut_end ([49] ++ a.enc) b.enc
      rw [show ([49] : List Nat) ++ a.enc ++ b.enc = (Tr.n a b).enc from rfl, List.length_append] at this
      rw [this]
      exact k
end
def sp_L_head (K : PySem.W.Frag) (_ : Str → Option Value) : Sp := fun vs H Q _ => ∃ (t : Tr), vs = [.str (S t.enc)] ∧ t.enc.length ≤ 1000000 ∧ Q (.str (S t.hd.enc)) H

section
variable {P : Program} {w : World} {K : PySem.W.Frag} {mg : Str → Option Value} {base : Heap}
theorem ok_L_head (T : Txt K mg)
    (c_L_end : Cal P w K mg base CX0 1 "_law_end" ["_law_tree_here", "_law_at"] (sp_L_end K mg)) : Cal P w K mg base CX0 2 "_law_head" ["_law_tree_here"] (sp_L_head K mg) := by
  refine T.f_L_head.ok sc_L_head (fun vs H Q E h => (by obtain ⟨_, rfl, _⟩ := h; rfl)) (fun f cdv A outer s H vs Q E hr h => ⟨_, (pss_cons (ps_if (nCmp (oEq (K := K) hr.units) (nv 0) pe_str (nomark _)) (pss_one (ps_ret pe_str)) pss_nil)
      (pss_one (ps_ret (pe_slice (slU (K := K)) (nv 0) (po_some pe_int) (po_some (nCall c_L_end (hr.mono (by decide)) pass0 (pa_cons (nv 0) (pa_cons pe_int pa_nil)))))))), ?_⟩)
  obtain ⟨t, rfl, hlen, k⟩ := h
  have hz : sizeLine = 16777216 := sizeLine_eq
  cases t with
  | l => exact k
  | n a b =>
    refine iteS (fun e => ?_) (fun e => ?_)
    · have := S_inj (a := (Tr.n a b).enc) (b := [48]) e
      simp [Tr.enc] at this
    · refine ⟨1, rfl, [49], a, b.enc, rfl, hlen, _, rfl, by rw [S_len]; omega, ?_⟩
      have := cut_mid [49] a.enc b.enc
      rw [show ([49] : List Nat) ++ a.enc ++ b.enc = (Tr.n a b).enc from rfl] at this
      show Q (.str (cutS (S (Tr.n a b).enc) (some (([49].length : Nat) : Int)) _)) _
      rw [this]
      exact k
end
def sp_L_items (K : PySem.W.Frag) (_ : Str → Option Value) : Sp := fun vs H Q _ => ∃ (t : Tr), vs = [.str (S t.enc)] ∧ t.enc.length ≤ 1000000 ∧ ∀ p H', Ex H H' → H p = none → H' p = some (.lst (t.items.map fun u => V.str (S u.enc))) → Q (.ref p) H'

section
variable {P : Program} {w : World} {K : PySem.W.Frag} {mg : Str → Option Value} {base : Heap}
theorem ok_L_items (T : Txt K mg)
    (c_L_tail : Cal P w K mg base CX0 2 "_law_tail" ["_law_tree_here"] (sp_L_tail K mg))
    (c_L_head : Cal P w K mg base CX0 2 "_law_head" ["_law_tree_here"] (sp_L_head K mg)) : Cal P w K mg base CX0 3 "_law_items" ["_law_tree_here"] (sp_L_items K mg) := by
  refine T.f_L_items.ok sc_L_items (fun vs H Q E h => (by obtain ⟨_, rfl, _⟩ := h; rfl)) (fun f cdv A outer s H vs Q E hr h => ⟨_, (pss_cons (ps_set (i := 1) sc_L_items.nd rfl (.inl rfl) (pe_lst pa_nil))
      (pss_cons (ps_while PassesOwn.never (nCmp (oNe (K := K) hr.units) (nv 0) pe_str (nomark _)) (pss_cons (ps_expr (pe_bm PySem.F.plainAttrs_list PySem.F.slot_list_append PySem.F.type_list_append mt_append (nv 1) (pa_cons (nCall c_L_head (hr.mono (by decide)) pass0 (pa_cons (nv 0) pa_nil)) pa_nil)))
      (pss_one (ps_set (i := 0) sc_L_items.nd rfl (.inl rfl) (nCall c_L_tail (hr.mono (by decide)) pass0 (pa_cons (nv 0) pa_nil))))))
      (pss_one (ps_ret (nv 1))))), ?_⟩)
  obtain ⟨t, rfl, hlen, k⟩ := h
  have hz : sizeLine = 16777216 := sizeLine_eq
  refine ⟨by show 0 ≤ sizeLine; decide, fun p np => ?_⟩
  refine ⟨fun m σ' H' => ∃ (u : Tr) (ts : List Tr), t.items = ts ++ u.items ∧ ts.length + u.enc.length ≤ t.enc.length ∧ H' = upd H p (.lst (ts.map fun u => V.str (S u.enc))) ∧ σ' = [some (.str (S u.enc)), some (.ref p)] ∧ m = u.enc.length,
    ⟨_, t, [], rfl, by simp, rfl, rfl, rfl⟩, ?_⟩
  rintro m σ' H' ⟨u, ts, h2, hc, rfl, rfl, rfl⟩
  cases u with
  | l =>
    rw [show t.items = ts from by rw [h2]; exact List.append_nil _] at k
    exact k p _ (Evl.Ex.new np) np upd_same
  | n a b =>
    refine iteN (fun _ => ?_) (fun q => ?_)
    · refine ⟨fun σ2 H2 => ∃ (u : Tr) (ts : List Tr), t.items = ts ++ u.items ∧ ts.length + u.enc.length ≤ t.enc.length ∧ H2 = upd H p (.lst (ts.map fun u => V.str (S u.enc))) ∧ σ2 = [some (.str (S u.enc)), some (.ref p)] ∧ u.enc.length < (Tr.n a b).enc.length, ?_, ?_⟩
      · rintro σ2 H2 ⟨u, ts, h1, h2, h3, h4, h5⟩
        exact ⟨_, h5, u, ts, h1, h2, h3, h4, rfl⟩
      · have el : (Tr.n a b).enc.length = a.enc.length + b.enc.length + 1 := by
          show (49 :: (a.enc ++ b.enc)).length = _
          rw [List.length_cons, List.length_append]
        have ha := List.length_pos_iff.mpr a.enc_ne
        refine ⟨.inl ⟨rfl, _, .of upd_same⟩, .n a b, rfl, by omega, p, _, _, rfl, rfl, upd_same, by rw [List.length_map]; omega, .n a b, rfl, by omega, ?_⟩
        refine ⟨b, ts ++ [a], by rw [h2, List.append_assoc]; rfl, ?_, ?_, rfl, by omega⟩
        · rw [List.length_append]
          show ts.length + 1 + _ ≤ _
          omega
        · rw [upd_upd, List.map_append]
          rfl
    · have := S_inj (a := (Tr.n a b).enc) (b := [48]) (V.str.inj q)
      simp [Tr.enc] at this
end
def sp_trees_end_of (K : PySem.W.Frag) (_ : Str → Option Value) : Sp := fun vs H Q _ => ∃ (pre : List Nat) (t : Tr) (post : List Nat), vs = [.str (S (pre ++ t.enc ++ post)), .int ((pre.length : Nat) : Int)] ∧ (pre ++ t.enc ++ post).length ≤ 1000000 ∧ Q (.int ((pre.length + t.enc.length : Nat) : Int)) H

section
variable {P : Program} {w : World} {K : PySem.W.Frag} {mg : Str → Option Value} {base : Heap}
theorem ok_trees_end_of (T : Txt K mg) : Cal P w K mg base CX0 1 "end_of" ["tree", "start"] (sp_trees_end_of K mg) := by
  refine T.f_trees_end_of.ok sc_trees_end_of (fun vs H Q E h => (by obtain ⟨_, _, _, rfl, _⟩ := h; rfl)) (fun f cdv A outer s H vs Q E hr h => ⟨_, (pss_cons (ps_set (i := 2) sc_trees_end_of.nd rfl (.inl rfl) pe_int)
      (pss_cons (ps_set (i := 3) sc_trees_end_of.nd rfl (.inl rfl) (nv 1))
      (pss_cons (ps_while PassesOwn.never (nCmp oGt (nv 2) pe_int (nomark _)) (pss_cons (ps_if (nCmp (oEq (K := K) hr.units) (pe_ix (ixU (K := K)) (nv 0) (nv 3) (fun _ _ => rfl)) pe_str (nomark _)) (pss_one (ps_aug (i := 2) sc_trees_end_of.nd rfl (.inl rfl) pe_int ip_add)) (pss_one (ps_aug (i := 2) sc_trees_end_of.nd rfl (.inl rfl) pe_int ip_sub)))
      (pss_one (ps_aug (i := 3) sc_trees_end_of.nd rfl (.inl rfl) pe_int ip_add))))
      (pss_one (ps_ret (nv 3)))))), ?_⟩)
  obtain ⟨pre, t, post, rfl, hlen, k⟩ := h
  have hz : sizeLine = 16777216 := sizeLine_eq
  generalize hl : pre ++ t.enc ++ post = l at hlen
  have hz' : (S l).length ≤ sizeLine := by rw [S_len]; omega
  refine ⟨fun m σ' H' => H' = H ∧ ∃ (ts : List Tr) (j : Nat), σ' = [some (.str (S l)), some (.int ((pre.length : Nat) : Int)), some (.int ((ts.length : Nat) : Int)), some (.int ((j : Nat) : Int))] ∧ l.drop j = (ts.map Tr.enc).flatten ++ post ∧ j ≤ l.length ∧ m = l.length - j, ⟨l.length - pre.length, rfl, [t], pre.length, rfl, ?_, ?_, rfl⟩, ?_⟩
  · rw [← hl, List.append_assoc, List.drop_left]
    simp
  · rw [← hl, List.append_assoc, List.length_append]; omega
  rintro m σ' H' ⟨rfl, ts, j, rfl, hd, hj, rfl⟩
  refine iteD (fun h0 => ?_) (fun h0 => ?_)
  · cases ts with
    | nil => exact absurd h0 (by simp)
    | cons t r =>
      obtain ⟨hj', c, hc, hcs⟩ := end_step hd
      have ha : atI (S l).cps.toList (j : Int) = some c := atI_nat hc
      refine ⟨fun σ2 H2 => H2 = H' ∧ ∃ (ts : List Tr) (i : Nat), σ2 = [some (.str (S l)), some (.int ((pre.length : Nat) : Int)), some (.int ((ts.length : Nat) : Int)), some (.int ((i : Nat) : Int))] ∧ l.drop i = (ts.map Tr.enc).flatten ++ post ∧ i ≤ l.length ∧ l.length - i < l.length - j, ?_, ?_⟩
      · rintro σ2 H2 ⟨rfl, ts, i, rfl, h1, h2, h3⟩
        exact ⟨_, h3, rfl, ts, i, rfl, h1, h2, rfl⟩
      · refine ⟨hz', c, ha, ?_⟩
        rcases hcs with ⟨rfl, a, b, h2⟩ | ⟨rfl, h2⟩
        · refine ⟨_, rfl, _, _, rfl, rfl, _, rfl, _, _, rfl, rfl, rfl, a :: b :: r, j + 1, ?_, h2, hj', by omega⟩
          show [some (V.str (S l)), some (.int ((pre.length : Nat) : Int)), some (.int (((r.length + 1 : Nat) : Int) + 1)), some (.int ((j : Int) + 1))] = _
          rw [show ((r.length + 1 : Nat) : Int) + 1 = (((a :: b :: r).length : Nat) : Int) by simp only [List.length_cons]; omega, show (j : Int) + 1 = ((j + 1 : Nat) : Int) by omega]
        · refine ⟨_, rfl, _, _, rfl, rfl, _, rfl, _, _, rfl, rfl, rfl, r, j + 1, ?_, h2, hj', by omega⟩
          show [some (V.str (S l)), some (.int ((pre.length : Nat) : Int)), some (.int (((r.length + 1 : Nat) : Int) - 1)), some (.int ((j : Int) + 1))] = _
          rw [show ((r.length + 1 : Nat) : Int) - 1 = ((r.length : Nat) : Int) by omega, show (j : Int) + 1 = ((j + 1 : Nat) : Int) by omega]
  · have e0 : ts = [] := by
      cases ts with
      | nil => rfl
      | cons t r => exact absurd (show (0 : Int) < ((r.length + 1 : Nat) : Int) by omega) h0
    subst e0
    have : j = pre.length + t.enc.length := end_at hl.symm hd hj
    rw [← this] at k
    exact k
end
def sp_trees_items_of (K : PySem.W.Frag) (_ : Str → Option Value) : Sp := fun vs H Q _ => ∃ (t : Tr), vs = [.str (S t.enc)] ∧ t.enc.length ≤ 1000000 ∧ ∀ p H', Ex H H' → H p = none → H' p = some (.lst (t.items.map fun u => V.str (S u.enc))) → Q (.ref p) H'

section
variable {P : Program} {w : World} {K : PySem.W.Frag} {mg : Str → Option Value} {base : Heap}
theorem ok_trees_items_of (T : Txt K mg)
    (c_trees_end_of : Cal P w K mg base CX0 1 "end_of" ["tree", "start"] (sp_trees_end_of K mg)) : Cal P w K mg base CX0 2 "items_of" ["tree"] (sp_trees_items_of K mg) := by
  refine T.f_trees_items_of.ok sc_trees_items_of (fun vs H Q E h => (by obtain ⟨_, rfl, _⟩ := h; rfl)) (fun f cdv A outer s H vs Q E hr h => ⟨_, (pss_cons (ps_set (i := 1) sc_trees_items_of.nd rfl (.inl rfl) (pe_lst pa_nil))
      (pss_cons (ps_set (i := 2) sc_trees_items_of.nd rfl (.inl rfl) pe_int)
      (pss_cons (ps_while PassesOwn.never (nCmp (oEq (K := K) hr.units) (pe_ix (ixU (K := K)) (nv 0) (nv 2) (fun _ _ => rfl)) pe_str (nomark _)) (pss_cons (ps_set (i := 3) sc_trees_items_of.nd rfl (.inl rfl) (nCall c_trees_end_of (hr.mono (by decide)) pass0 (pa_cons (nv 0) (pa_cons (pe_op (oAdd (K := K)) (nv 2) pe_int) pa_nil))))
      (pss_cons (ps_expr (pe_bm PySem.F.plainAttrs_list PySem.F.slot_list_append PySem.F.type_list_append mt_append (nv 1) (pa_cons (pe_slice (slU (K := K)) (nv 0) (po_some (pe_op (oAdd (K := K)) (nv 2) pe_int)) (po_some (nv 3))) pa_nil)))
      (pss_one (ps_set (i := 2) sc_trees_items_of.nd rfl (.inl rfl) (nv 3))))))
      (pss_one (ps_ret (nv 1)))))), ?_⟩)
  obtain ⟨t, rfl, hlen, k⟩ := h
  have hz : sizeLine = 16777216 := sizeLine_eq
  refine ⟨by show 0 ≤ sizeLine; decide, fun p np => ?_⟩
  -- what is left: u behind pre, the items so far made
  refine ⟨fun m σ' H' => ∃ (pre : List Nat) (u : Tr) (ts : List Tr) (e : Option V), t.enc = pre ++ u.enc ∧ t.items = ts ++ u.items ∧ H' = upd H p (.lst (ts.map fun u => V.str (S u.enc))) ∧ σ' = [some (.str (S t.enc)), some (.ref p), some (.int (pre.length : Nat)), e] ∧ m = u.enc.length,
    ⟨_, [], t, [], none, rfl, rfl, rfl, rfl, rfl⟩, ?_⟩
  rintro m σ' H' ⟨pre, u, ts, e, h1, h2, rfl, rfl, rfl⟩
  have hz' : (S t.enc).length ≤ sizeLine := by rw [S_len]; omega
  have hl1 := congrArg List.length h1
  rw [List.length_append] at hl1
  cases u with
  | l =>
    have ha : atI (S t.enc).cps.toList ((pre.length : Nat) : Int) = some 48 := atI_nat (by show t.enc[pre.length]? = _; rw [h1, List.getElem?_append_right (Nat.le_refl _), Nat.sub_self]; rfl)
    refine ⟨hz', 48, ha, ?_⟩
    rw [show t.items = ts from by rw [h2]; exact List.append_nil _] at k
    exact k p _ (Evl.Ex.new np) np upd_same
  | n a b =>
    have ha : atI (S t.enc).cps.toList ((pre.length : Nat) : Int) = some 49 := atI_nat (by show t.enc[pre.length]? = _; rw [h1, List.getElem?_append_right (Nat.le_refl _), Nat.sub_self]; rfl)
    have hts : ts.length ≤ t.enc.length := by
      have e2 := congrArg List.length h2
      rw [List.length_append] at e2
      have : ∀ v : Tr, v.items.length ≤ v.enc.length := by
        intro v
        induction v with
        | l => exact Nat.zero_le _
        | n a b _ ih =>
          show b.items.length + 1 ≤ (49 :: (a.enc ++ b.enc)).length
          rw [List.length_cons, List.length_append]
          omega
      have := this t
      omega
    have e3 : t.enc = (pre ++ [49]) ++ a.enc ++ b.enc := by
      rw [h1]
      show pre ++ (49 :: (a.enc ++ b.enc)) = _
      simp
    have e4 : ((pre.length : Nat) : Int) + 1 = (((pre ++ [49]).length : Nat) : Int) := by rw [List.length_append]; rfl
    refine ⟨hz', 49, ha, fun σ2 H2 => ∃ (pre : List Nat) (u : Tr) (ts : List Tr) (e : Option V), t.enc = pre ++ u.enc ∧ t.items = ts ++ u.items ∧ H2 = upd H p (.lst (ts.map fun u => V.str (S u.enc))) ∧ σ2 = [some (.str (S t.enc)), some (.ref p), some (.int (pre.length : Nat)), e] ∧ u.enc.length < (Tr.n a b).enc.length, ?_, ?_⟩
    · rintro σ2 H2 ⟨pre, u, ts, e, h1, h2, h3, h4, h5⟩
      exact ⟨_, h5, pre, u, ts, e, h1, h2, h3, h4, rfl⟩
    · refine ⟨pre ++ [49], a, b.enc, ?_, by rw [← e3]; exact hlen, ?_⟩
      · rw [← e3, ← e4]
      refine ⟨.inl ⟨rfl, _, .of upd_same⟩, _, rfl, _, rfl, hz', ?_⟩
      have ec : cutS (S t.enc) (some (((pre.length : Nat) : Int) + 1)) (some ((((pre ++ [49]).length + a.enc.length : Nat)) : Int)) = S a.enc := by
        rw [e4, e3]
        exact cut_mid _ _ _
      refine ⟨p, _, _, rfl, rfl, upd_same, by rw [List.length_map]; omega, ?_⟩
      rw [ec]
      refine ⟨(pre ++ [49]) ++ a.enc, b, ts ++ [a], some (.int (((pre ++ [49]).length + a.enc.length : Nat) : Int)), e3, by rw [h2, List.append_assoc]; rfl, ?_, ?_, by show _ < (49 :: (a.enc ++ b.enc)).length; rw [List.length_cons, List.length_append]; omega⟩
      · rw [upd_upd, List.map_append]
        rfl
      · rw [List.length_append (bs := a.enc)]
        rfl
end
def sp_L_drawL (K : PySem.W.Frag) (_ : Str → Option Value) : Sp := fun vs H Q _ => ∃ (p q : Addr) (ns : List Int) (a b c m : Int), vs = [.ref p, .int m] ∧ 0 < m ∧ m < 1000000 ∧ p ≠ q ∧ H q = some (.lst (ns.map V.int)) ∧ H p = some (.lst [.ref q, .int a, .int b, .int c]) ∧ 0 ≤ b ∧
  ∀ (v a' b' c' : Int), 0 ≤ v → v < m → 0 ≤ b' → Q (.int v) (upd H p (.lst [.ref q, .int a', .int b', .int c']))
def sp_L_draw (K : PySem.W.Frag) (_ : Str → Option Value) : Sp := fun vs H Q _ => ∃ (p : Addr) (m : Int), vs = [.ref p, .int m] ∧ 0 < m ∧ m < 1000000 ∧ StrmAt H p ∧ ∀ (v : Int), 0 ≤ v → v < m → StrmAt H p → Q (.int v) H

section
variable {P : Program} {w : World} {K : PySem.W.Frag} {mg : Str → Option Value} {base : Heap}
theorem ok_L_draw (T : Txt K mg) : Cal P w K mg base CX0 1 "_law_draw" ["_law_stream_here", "_law_many"] (sp_L_draw K mg) := by
  refine Cal.unseal (sp := sp_L_drawL K mg) (T.f_L_draw.ok sc_L_draw (fun vs H Q E h => (by obtain ⟨_, _, _, _, _, _, _, rfl, _⟩ := h; rfl)) (fun f cdv A outer s H vs Q E hr h => ⟨_, (Evl.pss_cut (ps_if (PW.pt (pw_and (nCmp (oEq (K := K) hr.units) (pe_ix (ixU (K := K)) (nv 0) pe_int (fun _ _ => rfl)) pe_int (nomark _)) (pw_and1 (nCmp oLt (pe_ix (ixU (K := K)) (nv 0) pe_int (fun _ _ => rfl)) (pe_callB (cLen (K := K)) (by rfl) T.n_len PySem.boot_len (pa_cons (pe_ix (ixU (K := K)) (nv 0) pe_int (fun _ _ => rfl)) pa_nil)) (nomark _))))) (pss_cons (ps_asg (pe_callB cAbs (by rfl) T.n_abs PyProof.Rows.boot_abs (pa_cons (pe_callTy cInt (by rfl) T.n_int PyProof.Rows.boot_int (pa_cons (pe_ix (ixU (K := K)) (pe_ix (ixU (K := K)) (nv 0) pe_int (fun _ _ => rfl)) (pe_ix (ixU (K := K)) (nv 0) pe_int (fun _ _ => rfl)) (fun _ _ => rfl)) pa_nil)) pa_nil)) (pg_sub (nv 0) pe_int set_list))
      (pss_one (ps_asg (pe_op (oAdd (K := K)) (pe_ix (ixU (K := K)) (nv 0) pe_int (fun _ _ => rfl)) pe_int) (pg_sub (nv 0) pe_int set_list)))) pss_nil)
      (pss_cons (ps_if (nCmp (oEq (K := K) hr.units) (pe_ix (ixU (K := K)) (nv 0) pe_int (fun _ _ => rfl)) pe_int (nomark _)) (pss_cons (ps_asg (pe_op oMod (pe_callTy cInt (by rfl) T.n_int PyProof.Rows.boot_int (pa_cons (pe_op (oAdd (K := K)) (pe_op (oMul (K := K)) (pe_ix (ixU (K := K)) (nv 0) pe_int (fun _ _ => rfl)) pe_int) pe_int) pa_nil)) pe_int) (pg_sub (nv 0) pe_int set_list))
      (pss_one (ps_ret (pe_op oMod (pe_callTy cInt (by rfl) T.n_int PyProof.Rows.boot_int (pa_cons (pe_op oDiv (pe_ix (ixU (K := K)) (nv 0) pe_int (fun _ _ => rfl)) pe_int) pa_nil)) (nv 1))))) pss_nil)
      (pss_cons (ps_set (i := 2) sc_L_draw.nd rfl (.inl rfl) (pe_op oMod (pe_callTy cInt (by rfl) T.n_int PyProof.Rows.boot_int (pa_cons (pe_ix (ixU (K := K)) (nv 0) pe_int (fun _ _ => rfl)) pa_nil)) (nv 1)))
      (pss_cons (ps_asg (pe_op oDiv (pe_ix (ixU (K := K)) (nv 0) pe_int (fun _ _ => rfl)) (nv 1)) (pg_sub (nv 0) pe_int set_list))
      (pss_one (ps_ret (nv 2))))))), ?_⟩)) (fun vs H Q E h => (by obtain ⟨_, _, rfl, _⟩ := h; rfl)) ?_
  · obtain ⟨p, q, ns, a, b, c, m, rfl, hm, hm2, npq, hq, hp, hb, k⟩ := h
    -- behind the refill: the pool and the place are others
    refine ⟨fun σ' H' => σ' = [some (.ref p), some (.int m), none] ∧ ∃ (a' b' : Int), 0 ≤ b' ∧ H' = upd H p (.lst [.ref q, .int a', .int b', .int c]), ?_, ?_⟩
    · refine ⟨_, _, .l hp, rfl, iteI (fun e1 => ?_) (fun e1 => ⟨rfl, a, b, hb, ?_⟩)⟩
      · refine ⟨_, _, .l hp, rfl, _, _, .l hp, rfl, _, .l hq, iteD (fun e2 => ?_) (fun e2 => ⟨rfl, a, b, hb, ?_⟩)⟩
        · obtain ⟨z, hx⟩ := atI_int hb e2
          refine ⟨_, _, .l hp, rfl, _, _, .l hp, rfl, _, _, .l hq, hx, p, _, 1, 1, rfl, rfl, hp, rfl, ?_⟩
          refine ⟨_, _, .l upd_same, rfl, p, _, 2, 2, rfl, rfl, upd_same, rfl, rfl, _, b + 1, by omega, upd_upd⟩
        · exact (upd_self hp).symm
      · exact (upd_self hp).symm
    · rintro σ' H' ⟨rfl, a', b', hb', rfl⟩
      refine ⟨_, _, .l upd_same, rfl, iteI (fun e1 => ?_) (fun e1 => ?_)⟩
      · refine ⟨_, _, .l upd_same, rfl, .inr ⟨by decide, by decide⟩, by decide, p, _, 3, 3, rfl, rfl, upd_same, rfl, ?_⟩
        refine ⟨_, _, .l upd_same, rfl, ⟨by decide, by decide⟩, hm, ?_⟩
        rw [upd_upd]
        exact k _ _ _ _ (Int.emod_nonneg _ (by omega)) (Int.emod_lt_of_pos _ hm) hb'
      · refine ⟨_, _, .l upd_same, rfl, hm, _, _, .l upd_same, rfl, ⟨hm, by omega⟩, p, _, 1, 1, rfl, rfl, upd_same, rfl, ?_⟩
        rw [upd_upd]
        exact k _ _ _ _ (Int.emod_nonneg _ (by omega)) (Int.emod_lt_of_pos _ hm) hb'
  · rintro vs H Q E ⟨p, m, rfl, hm, hm2, st, k⟩
    refine ⟨p, st, fun q ns a b c hp hq hb => ⟨p, q, ns, a, b, c, m, rfl, hm, hm2, ?_, ?_, upd_same, hb, fun v a' b' c' h0 h1 h2 => ⟨k v h0 h1 st, a', b', c', h2, rfl⟩⟩⟩
    · intro e; rw [e, hq] at hp; cases hp
    · rw [upd_ne (fun e => by rw [e, hp] at hq; cases hq)]; exact hq
end
def sp_L_tree (K : PySem.W.Frag) (_ : Str → Option Value) : Sp := fun vs H Q _ => ∃ (p : Addr) (n : Nat), vs = [.ref p, .int n] ∧ n ≤ 1000 ∧ StrmAt H p ∧ ∀ t : Tr, t.pairs ≤ n → StrmAt H p → Q (.str (S t.enc)) H

section
variable {P : Program} {w : World} {K : PySem.W.Frag} {mg : Str → Option Value} {base : Heap}
theorem ok_L_tree (T : Txt K mg)
    (c_L_draw : Cal P w K mg base CX0 1 "_law_draw" ["_law_stream_here", "_law_many"] (sp_L_draw K mg)) : Cal P w K mg base CX0 2 "_law_tree" ["_law_stream_here", "_law_pairs"] (sp_L_tree K mg) := by
  refine T.f_L_tree.ok sc_L_tree (fun vs H Q E h => (by obtain ⟨_, _, rfl, _⟩ := h; rfl)) (fun f cdv A outer s H vs Q E hr h => ⟨_, (pss_cons (ps_set (i := 2) sc_L_tree.nd rfl (.inl rfl) pe_str)
      (pss_cons (ps_set (i := 3) sc_L_tree.nd rfl (.inl rfl) pe_int)
      (pss_cons (ps_while PassesOwn.never (nCmp oGt (nv 3) pe_int (nomark _)) (pss_one (ps_if (PW.pt (pw_or (PW.pt (pw_and (nCmp oGt (nv 1) pe_int (nomark _)) (pw_and1 (nCmp oLt (nCall c_L_draw (hr.mono (by decide)) pass0 (pa_cons (nv 0) (pa_cons (pe_op (oAdd (K := K)) (nv 3) pe_int) pa_nil))) (nv 3) (nomark _))))) (pw_or1 (PW.pt (pw_and (nCmp oGt (nv 1) pe_int (nomark _)) (pw_and (nCmp (oEq (K := K) hr.units) (nv 3) pe_int (nomark _)) (pw_and1 (nCmp oGt (nCall c_L_draw (hr.mono (by decide)) pass0 (pa_cons (nv 0) (pa_cons pe_int pa_nil))) pe_int (nomark _))))))))) (pss_cons (ps_set (i := 2) sc_L_tree.nd rfl (.inl rfl) (pe_op (oAdd (K := K)) (nv 2) pe_str))
      (pss_cons (ps_set (i := 3) sc_L_tree.nd rfl (.inl rfl) (pe_op (oAdd (K := K)) (nv 3) pe_int))
      (pss_one (ps_set (i := 1) sc_L_tree.nd rfl (.inl rfl) (pe_op oSub (nv 1) pe_int))))) (pss_cons (ps_set (i := 2) sc_L_tree.nd rfl (.inl rfl) (pe_op (oAdd (K := K)) (nv 2) pe_str))
      (pss_one (ps_set (i := 3) sc_L_tree.nd rfl (.inl rfl) (pe_op oSub (nv 3) pe_int)))))))
      (pss_one (ps_ret (nv 2)))))), ?_⟩)
  obtain ⟨p, n, rfl, hn, st, k⟩ := h
  refine ⟨fun m σ' H' => H' = H ∧ ∃ (s : List Nat) (mi pa : Nat), σ' = [some (.ref p), some (.int pa), some (.str (S s)), some (.int mi)] ∧ scan 1 s = some mi ∧ s.length + mi = 2 * (n - pa) + 1 ∧ pa ≤ n ∧ m = 2 * pa + mi, ⟨2 * n + 1, rfl, [], 1, n, rfl, rfl, by simp, Nat.le_refl _, rfl⟩, ?_⟩
  rintro m σ' H' ⟨rfl, s, mi, pa, rfl, hs, hl, hp, rfl⟩
  refine iteD (fun h0 => ?_) (fun h0 => ?_)
  · refine ⟨fun σ2 H2 => H2 = H' ∧ ∃ (s : List Nat) (mi' pa' : Nat), σ2 = [some (.ref p), some (.int pa'), some (.str (S s)), some (.int mi')] ∧ scan 1 s = some mi' ∧ s.length + mi' = 2 * (n - pa') + 1 ∧ pa' ≤ n ∧ 2 * pa' + mi' < 2 * pa + mi, ?_, ?_⟩
    · rintro σ2 H2 ⟨rfl, s', mi', pa', rfl, h1, h2, h3, h4⟩
      exact ⟨2 * pa' + mi', h4, rfl, s', mi', pa', rfl, h1, h2, h3, rfl⟩
    · obtain ⟨j, rfl⟩ : ∃ j, mi = j + 1 := ⟨mi - 1, by omega⟩
      have hz : sizeLine = 16777216 := sizeLine_eq
      -- a pair
      have yes : 0 < pa → ∃ (s' : List Nat) (mi' pa' : Nat), (([some (V.ref p), some (.int pa), some (.str (S s)), some (.int ((j + 1 : Nat) : Int))].set 2 (some (.str (S s ++ ("1" : Str))))).set 3 (some (.int (((j + 1 : Nat) : Int) + 1)))).set 1 (some (.int ((pa : Int) - 1))) = [some (.ref p), some (.int pa'), some (.str (S s')), some (.int mi')] ∧ scan 1 s' = some mi' ∧ s'.length + mi' = 2 * (n - pa') + 1 ∧ pa' ≤ n ∧ 2 * pa' + mi' < 2 * pa + (j + 1) := by
        intro hpa
        refine ⟨s ++ [49], j + 2, pa - 1, ?_, ?_, ?_, by omega, by omega⟩
        · rw [S_app1, show ((j + 1 : Nat) : Int) + 1 = ((j + 2 : Nat) : Int) by omega, show (pa : Int) - 1 = ((pa - 1 : Nat) : Int) by omega]
          rfl
        · rw [scan_append, hs]; rfl
        · rw [List.length_append]; simp only [List.length_cons, List.length_nil]; omega
      have no : ∃ (s' : List Nat) (mi' pa' : Nat), ([some (V.ref p), some (.int pa), some (.str (S s)), some (.int ((j + 1 : Nat) : Int))].set 2 (some (.str (S s ++ ("0" : Str))))).set 3 (some (.int (((j + 1 : Nat) : Int) - 1))) = [some (.ref p), some (.int pa'), some (.str (S s')), some (.int mi')] ∧ scan 1 s' = some mi' ∧ s'.length + mi' = 2 * (n - pa') + 1 ∧ pa' ≤ n ∧ 2 * pa' + mi' < 2 * pa + (j + 1) := by
        refine ⟨s ++ [48], j, pa, ?_, ?_, ?_, by omega, by omega⟩
        · rw [S_app0, show ((j + 1 : Nat) : Int) - 1 = (j : Int) by omega]
          rfl
        · rw [scan_append, hs]; rfl
        · rw [List.length_append]; simp only [List.length_cons, List.length_nil]; omega
      have len1 : (S s).length + (("1" : Str)).length ≤ sizeLine := by
        show s.length + 1 ≤ sizeLine
        omega
      refine iteD (fun hpa => ?_) (fun hpa => ?_)
      · refine ⟨p, _, rfl, by omega, by omega, st, fun v hv0 hv1 _ => iteD (fun hv => ⟨len1, rfl, yes (by omega)⟩) (fun hv => iteD (fun _ => iteI (fun e1 => ⟨p, _, rfl, by decide, by decide, st, fun v hv0 hv1 _ => iteD (fun hv => ⟨len1, rfl, yes (by omega)⟩) (fun hv => ⟨len1, rfl, no⟩)⟩) (fun e1 => ⟨len1, rfl, no⟩)) (fun hq => absurd hpa hq))⟩
      · exact iteD (fun hq => absurd hq hpa) (fun _ => ⟨len1, rfl, no⟩)
  · have e0 : mi = 0 := by omega
    subst e0
    obtain ⟨t, rfl⟩ := scan_tree hs
    refine k t ?_ st
    have := t.enc_len
    omega
end
def wordsD : List PyData := [.tuple [.str ("refused" : Str)], .tuple [.str ("large" : Str)], .tuple [.str ("wide" : Str)]]
/-- a value that is told: no None, and no tuple whose first part is one of three words -/
inductive GivenOk (K : PySem.W.Frag) (H : Hp) : V → Prop
  | str (s : Str) : GivenOk K H (.str s)
  | int (i : Int) : GivenOk K H (.int i)
  | bl (b : Bool) : GivenOk K H (.bl b)
  | lst {a : Addr} (h : TyX K H (.ref a) (.type "list")) : GivenOk K H (.ref a)
  | tup {a : Addr} {x : V} {d : PyData} {xs : List V} (h : H a = some (.tup (x :: xs))) (hd : Dp K H x d) (hn : nb d = true) (hp : d.depth ≤ 60) (h1 : d ≠ .str ("refused" : Str)) (h2 : d ≠ .str ("large" : Str)) (h3 : d ≠ .str ("wide" : Str)) : GivenOk K H (.ref a)
def sp_L_given (K : PySem.W.Frag) (_ : Str → Option Value) : Sp := fun vs H Q _ => ∃ (v : V), vs = [v] ∧ GivenOk K H v ∧ ∀ H', Ex H H' → Q v H'

section
variable {P : Program} {w : World} {K : PySem.W.Frag} {mg : Str → Option Value} {base : Heap}
theorem ok_L_given (T : Txt K mg) : Cal P w K mg base CX0 1 "_law_given" ["_law_told_here"] (sp_L_given K mg) := by
  refine T.f_L_given.ok sc_L_given (fun vs H Q E h => (by obtain ⟨_, rfl, _⟩ := h; rfl)) (fun f cdv A outer s H vs Q E hr h => ⟨_, (pss_cons (ps_if (PW.pt (pw_or (nCmp oIs (nv 0) pe_non (nomark _)) (pw_or1 (PW.pt (pw_and (nVal (pe_callB (cIsi (K := K)) (by rfl) T.n_isinstance PyProof.Rows.boot_isinstance (pa_cons (nv 0) (pa_cons (nTy T.n_tuple PyProof.Rows.boot_tuple) pa_nil)))) (pw_and1 (nCmp (oInD (K := K) hr) (pe_slice (slU (K := K)) (nv 0) po_none (po_some pe_int)) (pe_tup (pa_cons (pe_tup (pa_cons pe_str pa_nil)) (pa_cons (pe_tup (pa_cons pe_str pa_nil)) (pa_cons (pe_tup (pa_cons pe_str pa_nil)) pa_nil)))) (by rfl)))))))) (pss_one (ps_ret (pe_lst (pa_cons pe_str pa_nil)))) pss_nil)
      (pss_one (ps_ret (nv 0)))), ?_⟩)
  obtain ⟨v, rfl, g, k⟩ := h
  cases g with
  | str s => exact ⟨false, rfl, k _ (Ex.refl _)⟩
  | int i => exact ⟨false, rfl, k _ (Ex.refl _)⟩
  | bl b => exact ⟨false, rfl, k _ (Ex.refl _)⟩
  | lst ty => exact ⟨_, false, ty, rfl, k _ (Ex.refl _)⟩
  | @tup a x d xs ha hd hn hp h1 h2 h3 =>
    refine ⟨_, true, .base (.tup ha), rfl, ?_⟩
    have hnb : nb (.tuple [d]) = true := by
      show (nb d && true) = true
      rw [hn]; rfl
    have sh : SeqAt.shaped (.tuple [d]) = true := shaped_of hnb (by
      have : (PyData.tuple [d]).depth = d.depth + 1 := by simp [PyData.depth, PyData.depthAll]
      omega)
    have no : (wordsD.any fun z => PyData.eqv z (.tuple [d])) = false := by
      have one : ∀ w : Str, nb (.str w) = true → d ≠ .str w → PyData.eqv (.tuple [.str w]) (.tuple [d]) = false := fun w hw ne => by
        cases q : PyData.eqv (.tuple [.str w]) (.tuple [d]) with
        | false => rfl
        | true =>
          have := (eqv_nb _ _ (by show (nb (.str w) && true) = true; rw [hw]; rfl) hnb).mp q
          injection this with this
          injection this with this
          exact absurd this.symm ne
      show (PyData.eqv (.tuple [.str ("refused" : Str)]) _ || (PyData.eqv (.tuple [.str ("large" : Str)]) _ || (PyData.eqv (.tuple [.str ("wide" : Str)]) _ || false))) = false
      rw [one _ (by decide +kernel) h1, one _ (by decide +kernel) h2, one _ (by decide +kernel) h3]
      rfl
    refine ⟨1, rfl, .inr ⟨a, _, rfl, .of ha, fun hw => ?_, fun hw b nb => ?_⟩⟩
    · have e0 := Ex.refl H
      have hD : Dp K H (.ref a) (.tuple [d]) := by
        have hl : (x :: xs).length = 1 := by
          have := hw.2
          rw [show (1 : Int) = ((1 : Nat) : Int) from rfl, HT.sIx_nat] at this
          rw [List.length_cons] at this ⊢
          omega
        have : xs = [] := by
          rw [List.length_cons] at hl
          exact List.length_eq_zero_iff.mp (by omega)
        subst this
        exact .tup (.of ha) (.cons hd .nil)
      refine ⟨by show 1 ≤ sizeLine; decide, fun p1 n1 => ⟨by show 1 ≤ sizeLine; decide, fun p2 n2 => ⟨by show 1 ≤ sizeLine; decide, fun p3 n3 => ⟨by show 3 ≤ sizeLine; decide, fun p4 n4 => ?_⟩⟩⟩⟩
      have x1 := Evl.Ex.new (o := .tup [V.str ("refused" : Str)]) n1
      have x2 := Evl.Ex.new (o := .tup [V.str ("large" : Str)]) n2
      have x3 := Evl.Ex.new (o := .tup [V.str ("wide" : Str)]) n3
      have x4 := Evl.Ex.new (o := .tup [V.ref p1, .ref p2, .ref p3]) n4
      refine ⟨_, wordsD, Dp.mono (x1.trans (x2.trans (x3.trans x4))) _ hD, .tup (.of upd_same) (.cons (.tup (.of ((x2.trans (x3.trans x4)) _ _ upd_same)) (.cons (.str _) .nil)) (.cons (.tup (.of ((x3.trans x4) _ _ upd_same)) (.cons (.str _) .nil)) (.cons (.tup (.of (x4 _ _ upd_same)) (.cons (.str _) .nil)) .nil))), sh, by decide +kernel, ?_⟩
      rw [no]
      exact k _ (e0.trans (x1.trans (x2.trans (x3.trans x4))))
    · have e0 := Evl.Ex.new (o := .tup (cutV (x :: xs) none (some 1))) nb
      have hD : Dp K (upd H b (.tup (cutV (x :: xs) none (some 1)))) (.ref b) (.tuple [d]) := by
        have hc : cutV (x :: xs) none (some 1) = [x] := by
          unfold cutV
          rw [show (1 : Int) = ((1 : Nat) : Int) from rfl, HT.sIx_nat, HT.sIx_none]
          rw [List.length_cons, show min 1 (xs.length + 1) = 1 by omega]
          rfl
        rw [hc]
        exact .tup (.of upd_same) (.cons (Dp.mono (Evl.Ex.new nb) _ hd) .nil)
      refine ⟨by show 1 ≤ sizeLine; decide, fun p1 n1 => ⟨by show 1 ≤ sizeLine; decide, fun p2 n2 => ⟨by show 1 ≤ sizeLine; decide, fun p3 n3 => ⟨by show 3 ≤ sizeLine; decide, fun p4 n4 => ?_⟩⟩⟩⟩
      have x1 := Evl.Ex.new (o := .tup [V.str ("refused" : Str)]) n1
      have x2 := Evl.Ex.new (o := .tup [V.str ("large" : Str)]) n2
      have x3 := Evl.Ex.new (o := .tup [V.str ("wide" : Str)]) n3
      have x4 := Evl.Ex.new (o := .tup [V.ref p1, .ref p2, .ref p3]) n4
      refine ⟨_, wordsD, Dp.mono (x1.trans (x2.trans (x3.trans x4))) _ hD, .tup (.of upd_same) (.cons (.tup (.of ((x2.trans (x3.trans x4)) _ _ upd_same)) (.cons (.str _) .nil)) (.cons (.tup (.of ((x3.trans x4) _ _ upd_same)) (.cons (.str _) .nil)) (.cons (.tup (.of (x4 _ _ upd_same)) (.cons (.str _) .nil)) .nil))), sh, by decide +kernel, ?_⟩
      rw [no]
      exact k _ (e0.trans (x1.trans (x2.trans (x3.trans x4))))
end
def sp_trees_checked (K : PySem.W.Frag) (mg : Str → Option Value) : Sp := fun vs H Q E => ∃ (l : List Nat), vs = [.str (S l)] ∧ l.length ≤ 10000000 ∧ (200000 < l.length → ∀ cls, mg "TooLarge" = some cls → E cls none H) ∧ (l.length ≤ 200000 → Q (.str (S l)) H)

section
variable {P : Program} {w : World} {K : PySem.W.Frag} {mg : Str → Option Value} {base : Heap}
theorem ok_trees_checked (T : Txt K mg) : Cal P w K mg base (L2.CX P w) 1 "checked" ["tree"] (sp_trees_checked K mg) := by
  refine T.f_trees_checked.okX sc_trees_checked (fun vs H Q E h => (by obtain ⟨_, rfl, _⟩ := h; rfl)) (fun f cdv A outer s H vs Q E hr h => ?_)
  have tk := takes_of (X := cxOf (L2.CX P w) P w K mg base ["tree"] "checked" (defScope s_trees_checked) f cdv A outer s H E) rfl rfl rfl rfl
  refine ⟨_, (pss_cons (ps_if (nCmp oGt (pe_callB (cLen (K := K)) (by rfl) T.n_len PySem.boot_len (pa_cons (nv 0) pa_nil)) (nGlobI T.m_MOST_TREE) (nomark _)) (pss_one (ps_raise rfl tk (nMk T.x_TooLarge))) pss_nil)
      (pss_one (ps_ret (nv 0)))), ?_⟩
  obtain ⟨l, rfl, hl, kx, k⟩ := h
  have hz : sizeLine = 16777216 := sizeLine_eq
  refine ⟨by rw [S_len]; omega, iteD (fun hg => kx (by have : (200000 : Int) < (l.length : Nat) := hg; omega)) (fun hg => k (by have : ¬ (200000 : Int) < (l.length : Nat) := hg; omega))⟩
end
def sp_trees_list_of (K : PySem.W.Frag) (mg : Str → Option Value) : Sp := fun vs H Q E => ∃ (a : Addr) (ls : List (List Nat)), vs = [.ref a] ∧ SqL K H a (ls.map fun l => V.str (S l)) ∧ ls.length ≤ 1000000 ∧ (listS ls).length ≤ 1000000 ∧
  (200000 < (listS ls).length → ∀ cls, mg "TooLarge" = some cls → ∀ H', Ex H H' → E cls none H') ∧ ((listS ls).length ≤ 200000 → ∀ H', Ex H H' → Q (.str (S (listS ls))) H')

section
variable {P : Program} {w : World} {K : PySem.W.Frag} {mg : Str → Option Value} {base : Heap}
theorem ok_trees_list_of (T : Txt K mg)
    (c_trees_checked : Cal P w K mg base (L2.CX P w) 1 "checked" ["tree"] (sp_trees_checked K mg)) : Cal P w K mg base (L2.CX P w) 2 "list_of" ["trees"] (sp_trees_list_of K mg) := by
  refine T.f_trees_list_of.okX sc_trees_list_of (fun vs H Q E h => (by obtain ⟨_, _, rfl, _⟩ := h; rfl)) (fun f cdv A outer s H vs Q E hr h => ?_)
  have tk := takes_of (X := cxOf (L2.CX P w) P w K mg base ["trees", "tree"] "list_of" (defScope s_trees_list_of) f cdv A outer s H E) rfl rfl rfl rfl
  refine ⟨_, (pss_one (ps_ret (nCall c_trees_checked (hr.mono (by decide)) (passes_call tk (fun _ _ _ _ h => h)) (pa_cons (pe_op (oAdd (K := K)) (pe_join pe_str (pe_lc (own := [("tree", 1)]) (g := gName 1) (tt := tYes) rfl sc_trees_list_of.nd (piAny (K := K) (nv 0)) (blkOk_by (own := [("tree", 1)]) (N := ["trees", "tree"]) (sc := defScope s_trees_list_of) (by decide +kernel)) (fun _ _ _ _ _ => (pg_name (i := 1) sc_trees_list_of.nd rfl (.inl rfl))) (fun _ _ _ _ _ => pts_nil) (fun _ _ _ _ _ => (pe_op (oAdd (K := K)) pe_str (nv 1))))) (nGlobS T.m_LEAF)) pa_nil)))), ?_⟩
  obtain ⟨a, ls, rfl, hS, hcnt, hlen, kx, k⟩ := h
  have hz : sizeLine = 16777216 := sizeLine_eq
  have onex : (("1" : Str)).length = 1 := rfl
  have one : (("0" : Str)).length = 1 := rfl
  have sl := sum_len ls
  refine ⟨⟨_, rfl⟩, .inl ⟨⟨_, hS⟩, fun D nD => lc_list (K := K) (a := a) (xs := ls.map fun l => V.str (S l)) (fun i H' => H' = upd H D (.lst ((ls.take i).map fun l => V.str (S (49 :: l))))) rfl (fun i H' _ e => by rw [e]; exact Evl.ex_l (Evl.Ex.new nD) hS) ?_ ?_⟩⟩
  · rintro i x H' hx rfl
    obtain ⟨l, hl, rfl⟩ := map_get hx
    have hi : i < ls.length := (List.getElem?_eq_some_iff.mp hl).1
    have hll : l.length ≤ (listS ls).length := by
      unfold listS
      rw [List.length_append, List.length_flatten, List.map_map]
      have : l.length + 1 ≤ (ls.map fun l => l.length + 1).sum := le_sum (List.mem_map.mpr ⟨l, mem_of_get hl, rfl⟩)
      have e : (List.map (List.length ∘ fun l => 49 :: l) ls).sum = (ls.map fun l => l.length + 1).sum := rfl
      omega
    refine ⟨rfl, by rw [onex, S_len]; omega, _, upd_same, by rw [List.length_map, List.length_take]; omega, ?_⟩
    show upd (upd H D _) D (.lst (_ ++ [V.str (("1" : Str) ++ S l)])) = _
    rw [upd_upd, show ("1" : Str) ++ S l = S (49 :: l) from S_append [49] _, take_map hl]
  · rintro H' rfl
    rw [List.length_map, List.take_length]
    refine ⟨_, D, ls.map fun l => S (49 :: l), rfl, rfl, .inl (.of (by rw [upd_same, List.map_map]; rfl)), ?_, ?_⟩
    · show _ + _ * 0 ≤ _
      omega
    · have ej : Txt.join ("" : Str) (ls.map fun l => S (49 :: l)) = S (ls.map fun l => 49 :: l).flatten := by
        have := join_S (ls.map fun l => 49 :: l)
        rw [List.map_map] at this
        exact this
      rw [show Txt.join (Str.ofString "") (ls.map fun l => S (49 :: l)) = S (ls.map fun l => 49 :: l).flatten from ej]
      have el : (S (ls.map fun l => 49 :: l).flatten).length + 1 = (listS ls).length := by
        unfold listS
        rw [S_len, List.length_append]
        rfl
      refine ⟨by rw [one]; omega, ?_⟩
      rw [S_app0]
      exact ⟨_, rfl, by show (listS ls).length ≤ _; omega, fun q cls hc => kx q cls hc _ (Evl.Ex.new nD), fun q => k q _ (Evl.Ex.new nD)⟩
end
def sp_L_told (K : PySem.W.Frag) (mg : Str → Option Value) : Sp := fun vs H Q E => ∃ (a : Addr) (ls : List (List Nat)), vs = [.ref a] ∧ SqL K H a (ls.map fun l => V.str (S l)) ∧ ls.length ≤ 1000000 ∧ (listS ls).length ≤ 1000000 ∧
  (200000 < (listS ls).length → ∀ p H', Ex H H' → H' p = some (.tup [.str ("refused" : Str), .str ("large" : Str)]) → Q (.ref p) H') ∧ ((listS ls).length ≤ 200000 → ∀ H', Ex H H' → Q (.str (S (listS ls))) H')

section
variable {P : Program} {w : World} {K : PySem.W.Frag} {mg : Str → Option Value} {base : Heap}
theorem ok_L_told (T : Txt K mg)
    (c_L_given : Cal P w K mg base CX0 1 "_law_given" ["_law_told_here"] (sp_L_given K mg))
    (c_trees_list_of : Cal P w K mg base (L2.CX P w) 2 "list_of" ["trees"] (sp_trees_list_of K mg)) : Cal P w K mg base CX0 3 "_law_told" ["_law_rows"] (sp_L_told K mg) := by
  refine T.f_L_told.ok sc_L_told (fun vs H Q E h => (by obtain ⟨_, _, rfl, _⟩ := h; rfl)) (fun f cdv A outer s H vs Q E hr h => ⟨_, (pss_one (nTryOnly (Wout := fun _ _ _ _ => False) rfl rfl T.x_TooLarge takes0 (fun W pn xe tk po => (pss_one (ps_ret (nCall c_L_given (hr.mono (by decide)) pass0 (pa_cons (nCallS c_trees_list_of (hr.mono (by decide)) (fun σ => passAt tk σ) (pa_cons (nv 0) pa_nil)) pa_nil))))) (fun a oe cls d pn hz hf => (pss_one (ps_ret (pe_tup (pa_cons pe_str (pa_cons pe_str pa_nil)))))))), ?_⟩)
  obtain ⟨a, ls, rfl, hS, hc1, hc2, kx, k⟩ := h
  intro c hc
  refine ⟨a, ls, rfl, hS, hc1, hc2, fun hg cls hcls H1 e1 => ⟨true, T.e_TooLarge_TooLarge _ _ hcls hc, fun _ a0 ha0 => ?_, fun q => Bool.noConfusion q⟩, fun hl H1 e1 => ⟨_, rfl, .str _, fun H' e => k hl H' (e1.trans e)⟩⟩
  exact ⟨by show 2 ≤ sizeLine; decide, fun p np => kx hg p _ (e1.trans (Evl.Ex.new np)) upd_same⟩
end
def sp_L_streamL (K : PySem.W.Frag) (_ : Str → Option Value) : Sp := fun vs H Q _ => ∃ (a : Addr) (ns : List Int), vs = [.ref a] ∧ SqL K H a (ns.map V.int) ∧
  ∀ (p q : Addr) (H' : Hp) (c : Int), Ex H H' → H p = none → p ≠ q → H' q = some (.lst (ns.map V.int)) → H' p = some (.lst [.ref q, .int 0, .int 0, .int c]) → Q (.ref p) H'
def sp_L_stream (K : PySem.W.Frag) (_ : Str → Option Value) : Sp := fun vs H Q _ => ∃ (a : Addr) (ns : List Int), vs = [.ref a] ∧ SqL K H a (ns.map V.int) ∧
  ∀ (p : Addr) (H' : Hp), Ex H H' → StrmAt H' p → Q (.ref p) H'

section
variable {P : Program} {w : World} {K : PySem.W.Frag} {mg : Str → Option Value} {base : Heap}
theorem ok_L_stream (T : Txt K mg) : Cal P w K mg base CX0 1 "_law_stream" ["_law_script"] (sp_L_stream K mg) := by
  refine Cal.seal (sp := sp_L_streamL K mg) (T.f_L_stream.ok sc_L_stream (fun vs H Q E h => (by obtain ⟨_, _, rfl, _⟩ := h; rfl)) (fun f cdv A outer s H vs Q E hr h => ⟨_, (pss_cons (ps_set (i := 1) sc_L_stream.nd rfl (.inl rfl) pe_int)
      (pss_cons (ps_for PassesOwn.never rfl (piAny (K := K) (nv 0)) (pg_name (i := 2) sc_L_stream.nd rfl (.inl rfl)) (pss_one (ps_set (i := 1) sc_L_stream.nd rfl (.inl rfl) (pe_op oMod (pe_callTy cInt (by rfl) T.n_int PyProof.Rows.boot_int (pa_cons (pe_op (oAdd (K := K)) (pe_op (oAdd (K := K)) (pe_op (oMul (K := K)) (nv 1) pe_int) (pe_op oMod (pe_callTy cInt (by rfl) T.n_int PyProof.Rows.boot_int (pa_cons (nv 2) pa_nil)) pe_int)) pe_int) pa_nil)) pe_int))))
      (pss_one (ps_ret (pe_lst (pa_cons (pe_callTy (cList (K := K)) (by rfl) T.n_list PyProof.Rows.boot_list (pa_cons (nv 0) pa_nil)) (pa_cons pe_int (pa_cons pe_int (pa_cons (nv 1) pa_nil))))))))), ?_⟩)) ?_
  · obtain ⟨a, ns, rfl, hS, k⟩ := h
    refine .inl ⟨⟨_, hS⟩, for_list (K := K) (a := a) (xs := ns.map V.int) (fun i σ H' => H' = H ∧ ∃ (c : Int) (v : Option V), σ = [some (.ref a), some (.int c), v]) ⟨rfl, 17, none, rfl⟩ (fun i σ H' _ e => by rw [e.1]; exact hS) ?_ ?_⟩
    · rintro i x σ H' hi ⟨rfl, c, v, rfl⟩
      obtain ⟨z, rfl⟩ : ∃ z, x = V.int z := by
        rw [List.getElem?_map] at hi
        cases e : ns[i]? with
        | none => rw [e] at hi; cases hi
        | some u => rw [e] at hi; exact ⟨u, (Option.some.inj hi).symm⟩
      refine ⟨.inr ⟨by decide, by decide⟩, by decide, by decide, rfl, _, _, rfl⟩
    · rintro σ H' ⟨rfl, c, v, rfl⟩
      refine ⟨_, .inl hS, fun q nq => ⟨by show 4 ≤ sizeLine; decide, fun p np => ?_⟩⟩
      have npq : p ≠ q := fun e => by rw [e, upd_same] at np; cases np
      have np' : H' p = none := by rw [upd_ne npq] at np; exact np
      exact k p q _ c ((Evl.Ex.new nq).trans (Evl.Ex.new np)) np' npq (by rw [upd_ne npq.symm, upd_same]) upd_same
  · rintro vs H Q E ⟨a, ns, rfl, hS, k⟩
    refine ⟨a, ns, rfl, hS, fun p q H' c e np npq hq hp => ⟨p, q, 0, 0, c, hp, by decide, k p _ (e.mut np) ⟨q, ns, upd_same, by rw [upd_ne npq.symm]; exact hq⟩⟩⟩
end
theorem listS_len_items (t : Tr) : t.items.length ≤ t.enc.length := by
  induction t with
  | l => exact Nat.zero_le _
  | n a b _ ih =>
    show b.items.length + 1 ≤ (49 :: (a.enc ++ b.enc)).length
    rw [List.length_cons, List.length_append]
    omega
theorem dp_strs {K : PySem.W.Frag} {H : Hp} : ∀ ls : List (List Nat), DpAll K H (ls.map fun l => V.str (S l)) (ls.map fun l => PyData.str (S l))
  | [] => .nil
  | l :: r => .cons (.str _) (dp_strs r)
theorem nb_strs : ∀ ls : List (List Nat), (∀ l ∈ ls, sOk l = true) → nbAll (ls.map fun l => PyData.str (S l)) = true
  | [], _ => rfl
  | l :: r, h => by
    show (nb (.str (S l)) && nbAll (r.map _)) = true
    rw [nb_S, h l List.mem_cons_self, nb_strs r (fun x hx => h x (List.mem_cons_of_mem _ hx))]
    rfl
theorem depth_strs : ∀ ls : List (List Nat), PyData.depthAll (ls.map fun l => PyData.str (S l)) = 0
  | [] => rfl
  | l :: r => by
    show max (PyData.depth (.str (S l))) (PyData.depthAll (r.map _)) = 0
    rw [depth_strs r]
    rfl
theorem shaped_strs {ls : List (List Nat)} (h : ∀ l ∈ ls, sOk l = true) : SeqAt.shaped (.list (ls.map fun l => PyData.str (S l))) = true := by
  refine shaped_of (nb_strs ls h) ?_
  have : (PyData.list (ls.map fun l => PyData.str (S l))).depth = 1 + PyData.depthAll (ls.map fun l => PyData.str (S l)) := by
    first | rfl | (simp only [PyData.depth]; omega)
  rw [this, depth_strs]
  decide
def strsV (ts : List Tr) : List V := ts.map fun t => V.str (S t.enc)
def strsD (ts : List Tr) : PyData := .list (ts.map fun t => PyData.str (S t.enc))
theorem strsV_eq (ts : List Tr) : strsV ts = (ts.map Tr.enc).map fun l => V.str (S l) := by
  unfold strsV
  rw [List.map_map]
  rfl
theorem strsD_eq (ts : List Tr) : strsD ts = .list ((ts.map Tr.enc).map fun l => PyData.str (S l)) := by
  unfold strsD
  rw [List.map_map]
  rfl
theorem strs_ok (ts : List Tr) : ∀ l ∈ ts.map Tr.enc, sOk l = true := fun l h => by
  obtain ⟨t, _, rfl⟩ := List.mem_map.mp h
  exact sOk_enc t
theorem strs_shaped (ts : List Tr) : SeqAt.shaped (strsD ts) = true := by
  rw [strsD_eq]
  exact shaped_strs (strs_ok ts)
theorem strs_eqv (ts : List Tr) : PyData.eqv (strsD ts) (strsD ts) = true := by
  refine SeqAt.eqv_refl _ ?_
  have := strs_shaped ts
  exact SeqAt.canLay_of_shaped this
theorem strs_dp {K : PySem.W.Frag} {H : Hp} {a : Addr} {ts : List Tr} (h : H a = some (.lst (strsV ts))) : Dp K H (.ref a) (strsD ts) := by
  rw [strsD_eq]
  rw [strsV_eq] at h
  exact .lst (.of h) (dp_strs _)

section
variable {P : Program} {w : World} {K : PySem.W.Frag} {mg : Str → Option Value} {base : Heap}
theorem ok_L_law {f : Addr} {fd : FuncData} (T : Txt K mg) (F : Fun K "law" "law" s_L_law f fd)
    (c_L_items : Cal P w K mg base CX0 3 "_law_items" ["_law_tree_here"] (sp_L_items K mg))
    (c_trees_items_of : Cal P w K mg base CX0 2 "items_of" ["tree"] (sp_trees_items_of K mg))
    (c_L_tree : Cal P w K mg base CX0 2 "_law_tree" ["_law_stream_here", "_law_pairs"] (sp_L_tree K mg))
    (c_L_draw : Cal P w K mg base CX0 1 "_law_draw" ["_law_stream_here", "_law_many"] (sp_L_draw K mg))
    (c_L_told : Cal P w K mg base CX0 3 "_law_told" ["_law_rows"] (sp_L_told K mg))
    (c_L_stream : Cal P w K mg base CX0 1 "_law_stream" ["_law_script"] (sp_L_stream K mg)) : FnOk P w K mg base CX0 4 f fd ["_law_script"] (spLaw K mg) := by
  refine F.ok sc_L_law (fun vs H Q E h => (by obtain ⟨_, _, rfl, _⟩ := h; rfl)) (fun cdv A outer s H vs Q E hr h => ⟨_, (pss_cons (ps_set (i := 1) sc_L_law.nd rfl (.inr rfl) (nCall c_L_stream (hr.mono (by decide)) pass0 (pa_cons (nv 0) pa_nil)))
      (pss_cons (ps_setLc (i := 2) (own := [("_law_k", 3)]) (g := gName 3) (tt := tYes) rfl sc_L_law.nd rfl rfl (sw_true rfl rfl rfl (by decide +kernel)) (pi_range1 (by rfl) T.n_range (pa_cons (nCall c_L_draw (hr.mono (by decide)) pass0 (pa_cons (nv 1) (pa_cons pe_int pa_nil))) pa_nil)) (blkOk_by (own := [("_law_k", 3)]) (N := ["_law_script", "_law_stream_here", "_law_rows", "_law_k", "_law_due", "_law_row", "_law_given_here", "_law_tree_here", "_law_found"]) (sc := defScope s_L_law) (by decide +kernel)) (fun _ _ _ _ _ => (pg_name (i := 3) sc_L_law.nd rfl (.inl rfl))) (fun _ _ _ _ _ => pts_nil) (fun _ _ _ _ _ => (nCall c_L_tree (hr.mono (by decide)) pass0 (pa_cons (nv 1) (pa_cons (nCall c_L_draw (hr.mono (by decide)) pass0 (pa_cons (nv 1) (pa_cons pe_int pa_nil))) pa_nil)))))
      (Evl.pss_cut (ps_if (nCmp (oEq (K := K) hr.units) (nCall c_L_draw (hr.mono (by decide)) pass0 (pa_cons (nv 1) (pa_cons pe_int pa_nil))) pe_int (nomark _)) (pss_one (ps_set (i := 2) sc_L_law.nd rfl (.inl rfl) (pe_op (oAdd (K := K)) (nv 2) (pe_lc (own := [("_law_k", 3)]) (g := gName 3) (tt := tYes) rfl sc_L_law.nd (pi_range1 (by rfl) T.n_range (pa_cons pe_int pa_nil)) (blkOk_by (own := [("_law_k", 3)]) (N := ["_law_script", "_law_stream_here", "_law_rows", "_law_k", "_law_due", "_law_row", "_law_given_here", "_law_tree_here", "_law_found"]) (sc := defScope s_L_law) (by decide +kernel)) (fun _ _ _ _ _ => (pg_name (i := 3) sc_L_law.nd rfl (.inl rfl))) (fun _ _ _ _ _ => pts_nil) (fun _ _ _ _ _ => (pe_op (oAdd (K := K)) (pe_op (oMul (K := K)) pe_str (pe_op (oAdd (K := K)) pe_int (nCall c_L_draw (hr.mono (by decide)) pass0 (pa_cons (nv 1) (pa_cons pe_int pa_nil))))) pe_str)))))) pss_nil)
      (pss_cons (ps_set (i := 4) sc_L_law.nd rfl (.inl rfl) (pe_op (oAdd (K := K)) (pe_join pe_str (pe_lc (own := [("_law_row", 5)]) (g := gName 5) (tt := tYes) rfl sc_L_law.nd (piAny (K := K) (nv 2)) (blkOk_by (own := [("_law_row", 5)]) (N := ["_law_script", "_law_stream_here", "_law_rows", "_law_k", "_law_due", "_law_row", "_law_given_here", "_law_tree_here", "_law_found"]) (sc := defScope s_L_law) (by decide +kernel)) (fun _ _ _ _ _ => (pg_name (i := 5) sc_L_law.nd rfl (.inl rfl))) (fun _ _ _ _ _ => pts_nil) (fun _ _ _ _ _ => (pe_op (oAdd (K := K)) pe_str (nv 5))))) pe_str))
      (pss_cons (ps_set (i := 6) sc_L_law.nd rfl (.inl rfl) (pe_callTy (cList (K := K)) (by rfl) T.n_list PyProof.Rows.boot_list (pa_cons (nv 2) pa_nil)))
      (pss_cons (ps_if (nCmp oGt (pe_callB (cLen (K := K)) (by rfl) T.n_len PySem.boot_len (pa_cons (nv 4) pa_nil)) pe_int (nomark _)) (pss_one (ps_ret (pe_and (pe_cmpR (oEq (K := K) hr.units) (nCall c_L_told (hr.mono (by decide)) pass0 (pa_cons (nv 6) pa_nil)) (pe_tup (pa_cons pe_str (pa_cons pe_str pa_nil))) (nomark _)) (pe_one (pe_cmpR (oEq (K := K) hr.units) (nv 6) (nv 2) (nomark _)))))) pss_nil)
      (pss_cons (ps_if (PW.pt (pw_or (nCmp (oNe (K := K) hr.units) (nCall c_L_told (hr.mono (by decide)) pass0 (pa_cons (nv 6) pa_nil)) (nv 4) (nomark _)) (pw_or (nCmp (oNe (K := K) hr.units) (nv 6) (nv 2) (nomark _)) (pw_or1 (nCmp (oNe (K := K) hr.units) (nCall c_trees_items_of (hr.mono (by decide)) pass0 (pa_cons (nv 4) pa_nil)) (nv 2) (nomark _)))))) (pss_one (ps_ret pe_bl)) pss_nil)
      (pss_cons (ps_set (i := 7) sc_L_law.nd rfl (.inl rfl) (nCall c_L_tree (hr.mono (by decide)) pass0 (pa_cons (nv 1) (pa_cons (nCall c_L_draw (hr.mono (by decide)) pass0 (pa_cons (nv 1) (pa_cons pe_int pa_nil))) pa_nil))))
      (pss_cons (ps_set (i := 8) sc_L_law.nd rfl (.inl rfl) (nCall c_trees_items_of (hr.mono (by decide)) pass0 (pa_cons (nv 7) pa_nil)))
      (pss_cons (ps_if (PW.pt (pw_or (pt_not (nVal (pe_callB (cIsi (K := K)) (by rfl) T.n_isinstance PyProof.Rows.boot_isinstance (pa_cons (nv 8) (pa_cons (nTy T.n_list PyProof.Rows.boot_list) pa_nil))))) (pw_or1 (nCmp (oNe (K := K) hr.units) (nv 8) (nCall c_L_items (hr.mono (by decide)) pass0 (pa_cons (nv 7) pa_nil)) (nomark _))))) (pss_one (ps_ret pe_bl)) pss_nil)
      (pss_cons (ps_expr (pe_bm PySem.F.plainAttrs_list PySem.F.slot_list_append PySem.F.type_list_append mt_append (nv 8) (pa_cons pe_str pa_nil)))
      (pss_one (ps_ret (pe_and (pe_cmpR (oEq (K := K) hr.units) (nCall c_trees_items_of (hr.mono (by decide)) pass0 (pa_cons (nv 7) pa_nil)) (nCall c_L_items (hr.mono (by decide)) pass0 (pa_cons (nv 7) pa_nil)) (nomark _)) (pe_one (pe_cmpR (oEq (K := K) hr.units) (pe_callB (cLen (K := K)) (by rfl) T.n_len PySem.boot_len (pa_cons (nv 8) pa_nil)) (pe_op (oAdd (K := K)) (pe_callB (cLen (K := K)) (by rfl) T.n_len PySem.boot_len (pa_cons (nCall c_L_items (hr.mono (by decide)) pass0 (pa_cons (nv 7) pa_nil)) pa_nil)) pe_int) (nomark _))))))))))))))))), ?_⟩)
  obtain ⟨a, ns, rfl, hS, hlen, k⟩ := h
  have hz : sizeLine = 16777216 := sizeLine_eq
  have two : (("10" : Str)).length = 2 := rfl
  have one : (("0" : Str)).length = 1 := rfl
  have onex : (("1" : Str)).length = 1 := rfl
  refine ⟨a, ns, rfl, hS, fun s H1 e1 st => ?_⟩
  refine ⟨s, _, rfl, by decide, by decide, st, fun v hv0 hv1 _ => ?_⟩
  obtain ⟨v, rfl⟩ := Int.eq_ofNat_of_zero_le hv0
  refine ⟨_, rfl, by omega, by omega, fun D nD => ?_⟩
  refine lc_range (lo := 0) (n := v) (fun i H' => ∃ ts : List Tr, ts.length = i ∧ (∀ t ∈ ts, t.pairs ≤ 6) ∧ H' = upd H1 D (.lst (ts.map fun t => V.str (S t.enc)))) ⟨[], rfl, by simp, rfl⟩ ?_ ?_
  · rintro i H' hi ⟨ts, hl, hp, rfl⟩
    have st2 := st.mono (Evl.Ex.new (o := .lst (ts.map fun t => V.str (S t.enc))) nD)
    refine ⟨rfl, s, _, rfl, by decide, by decide, st2, fun w hw0 hw1 _ => ?_⟩
    obtain ⟨w, rfl⟩ := Int.eq_ofNat_of_zero_le hw0
    refine ⟨s, w, rfl, by omega, st2, fun t ht _ => ⟨_, upd_same, by rw [List.length_map]; omega, ts ++ [t], by rw [List.length_append, hl]; rfl, ?_, ?_⟩⟩
    · intro u hu
      rcases List.mem_append.mp hu with h | h
      · exact hp u h
      · rw [List.mem_singleton.mp h]; omega
    · rw [upd_upd, List.map_append]; rfl
  rintro H2 ⟨ts, hl, hp, rfl⟩
  have eD := Evl.Ex.new (o := .lst (strsV ts)) nD
  -- perhaps four long ones more
  refine ⟨fun σ' H' => ∃ (R : Addr) (ts : List Tr), Ex H1 H' ∧ H' R = some (.lst (strsV ts)) ∧ ts.length ≤ 13 ∧ (∀ t ∈ ts, t.enc.length ≤ 50100) ∧ σ' = [some (.ref a), some (.ref s), some (.ref R), none, none, none, none, none, none], ?_, ?_⟩
  · have st2 := st.mono eD
    refine ⟨s, _, rfl, by decide, by decide, st2, fun d hd0 hd1 _ => iteI (fun _ => ?_) (fun _ => ⟨D, ts, eD, upd_same, by omega, fun t ht => by have := hp t ht; have := t.enc_len; omega, rfl⟩)⟩
    refine ⟨4, rfl, by decide, by decide, fun L nL => ?_⟩
    have nLD : L ≠ D := fun e => by rw [e, upd_same] at nL; cases nL
    refine lc_range (lo := 0) (n := 4) (fun i H' => ∃ us : List Tr, us.length = i ∧ (∀ t ∈ us, t.enc.length ≤ 50100) ∧ H' = upd (upd H1 D (.lst (strsV ts))) L (.lst (strsV us))) ⟨[], rfl, by simp, rfl⟩ ?_ ?_
    · rintro i H' hi ⟨us, hl2, hp2, rfl⟩
      have st3 := st2.mono (Evl.Ex.new (o := .lst (strsV us)) nL)
      refine ⟨rfl, s, _, rfl, by decide, by decide, st3, fun w hw0 hw1 _ => ?_⟩
      obtain ⟨w, rfl⟩ := Int.eq_ofNat_of_zero_le hw0
      have ew : (24990 + (w : Int)).toNat = 24990 + w := by omega
      have rw_ := repS_length ("10" : Str) (24990 + w)
      refine ⟨⟨by omega, by omega, by rw [two, ew]; omega⟩, by rw [ew, rw_, two, one]; omega, ?_⟩
      rw [ew, tens_str, ← numT_enc]
      refine ⟨_, upd_same, by unfold strsV; rw [List.length_map]; omega, us ++ [numT (24990 + w)], by rw [List.length_append, hl2]; rfl, ?_, ?_⟩
      · intro u hu
        rcases List.mem_append.mp hu with h | h
        · exact hp2 u h
        · rw [List.mem_singleton.mp h, numT_enc, tens_len]; omega
      · unfold strsV
        rw [upd_upd, List.map_append]; rfl
    · rintro H3 ⟨us, hl2, hp2, rfl⟩
      refine .inl ⟨D, L, strsV ts, strsV us, rfl, rfl, by rw [upd_ne nLD.symm, upd_same], upd_same, by unfold strsV; rw [List.length_map, List.length_map]; omega, fun R nR => ?_⟩
      refine ⟨R, ts ++ us, eD.trans ((Evl.Ex.new nL).trans (Evl.Ex.new nR)), by rw [upd_same]; unfold strsV; rw [List.map_append], by rw [List.length_append]; omega, fun t ht => ?_, rfl⟩
      rcases List.mem_append.mp ht with h | h
      · have := hp t h
        have := t.enc_len
        omega
      · exact hp2 t h
  clear hp hl eD nD
  rintro σ' H2 ⟨R, ts, e2, hR, hc, hp, rfl⟩
  have st2 := st.mono e2
  have hll : (listS (ts.map Tr.enc)).length ≤ 700000 := by
    have sm : ∀ us : List Tr, (∀ t ∈ us, t.enc.length ≤ 50100) → ((us.map Tr.enc).map fun l => 49 :: l).flatten.length ≤ us.length * 50101 := by
      intro us
      induction us with
      | nil => intro _; exact Nat.zero_le _
      | cons t r ih =>
        intro h
        have h1 := h t List.mem_cons_self
        have h2 := ih fun x hx => h x (List.mem_cons_of_mem _ hx)
        rw [List.map_cons, List.map_cons, List.flatten_cons, List.length_append, List.length_cons, List.length_cons, Nat.succ_mul]
        omega
    have := sm ts hp
    unfold listS
    rw [List.length_append]
    show _ + 1 ≤ _
    omega
  have sl := sum_len (ts.map Tr.enc)
  -- due
  have hRl : SqL K H2 R ((ts.map Tr.enc).map fun l => V.str (S l)) := .of (by rw [← strsV_eq]; exact hR)
  refine ⟨⟨_, rfl⟩, .inl ⟨⟨_, hRl⟩, fun E0 nE => lc_list (K := K) (a := R) (xs := (ts.map Tr.enc).map fun l => V.str (S l)) (fun i H' => H' = upd H2 E0 (.lst (((ts.map Tr.enc).take i).map fun l => V.str (S (49 :: l))))) rfl (fun i H' _ e => by rw [e]; exact Evl.ex_l (Evl.Ex.new nE) hRl) ?_ ?_⟩⟩
  · rintro i x H' hx rfl
    obtain ⟨l, hl, rfl⟩ := map_get hx
    have hi : i < (ts.map Tr.enc).length := (List.getElem?_eq_some_iff.mp hl).1
    rw [List.length_map] at hi
    obtain ⟨t, ht, rfl⟩ := List.mem_map.mp (mem_of_get hl)
    have htl := hp t ht
    refine ⟨rfl, by rw [onex, S_len]; omega, _, upd_same, by rw [List.length_map, List.length_take]; omega, ?_⟩
    show upd (upd H2 E0 _) E0 (.lst (_ ++ [V.str (("1" : Str) ++ S t.enc)])) = _
    rw [upd_upd, show ("1" : Str) ++ S t.enc = S (49 :: t.enc) from S_append [49] _, take_map hl]
  rintro H' rfl
  rw [List.length_map, List.take_length]
  refine ⟨_, E0, (ts.map Tr.enc).map fun l => S (49 :: l), rfl, rfl, .inl (.of (by rw [upd_same, List.map_map, List.map_map, List.map_map]; rfl)), ?_, ?_⟩
  · show _ + _ * 0 ≤ _
    omega
  have ej : Txt.join ("" : Str) ((ts.map Tr.enc).map fun l => S (49 :: l)) = S ((ts.map Tr.enc).map fun l => 49 :: l).flatten := by
    have := join_S ((ts.map Tr.enc).map fun l => 49 :: l)
    rw [List.map_map] at this
    exact this
  rw [show Txt.join (Str.ofString "") ((ts.map Tr.enc).map fun l => S (49 :: l)) = S ((ts.map Tr.enc).map fun l => 49 :: l).flatten from ej]
  have el : (S ((ts.map Tr.enc).map fun l => 49 :: l).flatten).length + 1 = (listS (ts.map Tr.enc)).length := by
    unfold listS
    rw [S_len, List.length_append]
    rfl
  refine ⟨by rw [one]; omega, ?_⟩
  rw [S_app0, show ((ts.map Tr.enc).map fun l => 49 :: l).flatten ++ [48] = listS (ts.map Tr.enc) from rfl]
  have e3 := Evl.Ex.new (o := .lst ((ts.map Tr.enc).map fun l => V.str (S (49 :: l)))) nE
  generalize upd H2 E0 (.lst ((ts.map Tr.enc).map fun l => V.str (S (49 :: l)))) = H3 at e3 ⊢
  have hR3 := e3 _ _ hR
  -- given
  refine ⟨_, .l hR3, fun g ng => ?_⟩
  have e4 := Evl.Ex.new (o := .lst (strsV ts)) ng
  have hG4 : (upd H3 g (.lst (strsV ts))) g = some (.lst (strsV ts)) := upd_same
  have hR4 := e4 _ _ hR3
  generalize upd H3 g (.lst (strsV ts)) = H4 at e4 hG4 hR4 ⊢
  have st4 := st2.mono (e3.trans e4)
  have lenc : (ts.map Tr.enc).length ≤ 1000000 := by rw [List.length_map]; omega
  have gl : SqL K H4 g ((ts.map Tr.enc).map fun l => V.str (S l)) := .of (by rw [← strsV_eq]; exact hG4)
  refine ⟨by rw [S_len]; omega, iteD (fun hg => ?_) (fun hg => ?_)⟩
  · have hg' : 200000 < (listS (ts.map Tr.enc)).length := by
      have : (200000 : Int) < ((listS (ts.map Tr.enc)).length : Nat) := hg
      omega
    refine ⟨g, ts.map Tr.enc, rfl, gl, lenc, by omega, fun _ p H5 e5 hp5 => ⟨by show 2 ≤ sizeLine; decide, fun q nq => ?_⟩, fun q => absurd q (by omega)⟩
    have e6 := Evl.Ex.new (o := .tup [.str ("refused" : Str), .str ("large" : Str)]) nq
    refine ⟨.tuple [.str ("refused" : Str), .str ("large" : Str)], .tuple [.str ("refused" : Str), .str ("large" : Str)], .tup (.of (e6 _ _ hp5)) (.cons (.str _) (.cons (.str _) .nil)), .tup (.of upd_same) (.cons (.str _) (.cons (.str _) .nil)), by decide +kernel, by decide +kernel, ?_⟩
    rw [show PyData.eqv (.tuple [.str ("refused" : Str), .str ("large" : Str)]) (.tuple [.str ("refused" : Str), .str ("large" : Str)]) = true by decide +kernel]
    refine ⟨_, rfl, iteT ⟨strsD ts, strsD ts, strs_dp ((e5.trans e6) _ _ hG4), strs_dp ((e5.trans e6) _ _ hR4), strs_shaped _, strs_shaped _, ?_⟩⟩
    rw [strs_eqv]
    exact k _
  · have hg' : ¬ 200000 < (listS (ts.map Tr.enc)).length := by
      have : ¬ (200000 : Int) < ((listS (ts.map Tr.enc)).length : Nat) := hg
      omega
    refine ⟨g, ts.map Tr.enc, rfl, gl, lenc, by omega, fun q => absurd q (by omega), fun _ H5 e5 => ?_⟩
    refine iteN (fun h => absurd rfl h) (fun _ => ?_)
    refine ⟨strsD ts, strsD ts, strs_dp (e5 _ _ hG4), strs_dp (e5 _ _ hR4), strs_shaped _, strs_shaped _, ?_⟩
    rw [strs_eqv]
    refine ⟨listT ts, by rw [listT_enc], by rw [listT_enc]; omega, fun p H6 e6 np hp6 => ?_⟩
    rw [items_listT] at hp6
    refine ⟨strsD ts, strsD ts, strs_dp hp6, strs_dp ((e5.trans e6) _ _ hR4), strs_shaped _, strs_shaped _, ?_⟩
    rw [strs_eqv]
    -- a drawn tree
    have st6 := st4.mono (e5.trans e6)
    refine ⟨s, _, rfl, by decide, by decide, st6, fun d hd0 hd1 _ => ?_⟩
    obtain ⟨d, rfl⟩ := Int.eq_ofNat_of_zero_le hd0
    refine ⟨s, d, rfl, by omega, st6, fun t ht _ => ?_⟩
    have tl := t.enc_len
    refine ⟨t, rfl, by omega, fun F H7 e7 nF hF => ?_⟩
    refine ⟨_, true, .base (.lst hF), rfl, ?_⟩
    refine ⟨t, rfl, by omega, fun G H8 e8 nG hG => ?_⟩
    have hF8 := e8 _ _ hF
    refine ⟨strsD t.items, strsD t.items, strs_dp hF8, strs_dp hG, strs_shaped _, strs_shaped _, ?_⟩
    rw [strs_eqv]
    have il := listS_len_items t
    refine ⟨.inl ⟨rfl, _, .of hF8⟩, F, _, _, rfl, rfl, hF8, by rw [List.length_map]; omega, ?_⟩
    refine ⟨t, rfl, by omega, fun F2 H9 e9 nF2 hF2 => ⟨t, rfl, by omega, fun G2 H10 e10 nG2 hG2 => ?_⟩⟩
    refine ⟨strsD t.items, strsD t.items, strs_dp (e10 _ _ hF2), strs_dp hG2, strs_shaped _, strs_shaped _, ?_⟩
    rw [strs_eqv]
    refine ⟨_, rfl, iteT ⟨_, .l ((e9.trans e10) _ _ upd_same), t, rfl, by omega, fun G3 H11 e11 nG3 hG3 => ⟨_, .l hG3, ?_⟩⟩⟩
    show Q (.bl (decide (V.int ((((t.items.map fun u => V.str (S u.enc)) ++ [V.str ("0" : Str)]).length : Nat) : Int) = V.int ((((t.items.map fun u => V.str (S u.enc)).length : Nat) : Int) + 1)))) _
    exact okB (by rw [List.length_append]; rfl) (k _)
end
theorem all_ok {P : Program} {w : World} {K : PySem.W.Frag} {mg : Str → Option Value} {base : Heap} {f : Addr} {fd : FuncData} (T : Txt K mg) (F : Fun K "law" "law" s_L_law f fd) : FnOk P w K mg base CX0 4 f fd ["_law_script"] (spLaw K mg) := by
  have c_L_end := ok_L_end (P := P) (w := w) (base := base) T 
  have c_L_tail := ok_L_tail (P := P) (w := w) (base := base) T c_L_end
  have c_L_head := ok_L_head (P := P) (w := w) (base := base) T c_L_end
  have c_L_items := ok_L_items (P := P) (w := w) (base := base) T c_L_tail c_L_head
  have c_trees_end_of := ok_trees_end_of (P := P) (w := w) (base := base) T 
  have c_trees_items_of := ok_trees_items_of (P := P) (w := w) (base := base) T c_trees_end_of
  have c_L_draw := ok_L_draw (P := P) (w := w) (base := base) T 
  have c_L_tree := ok_L_tree (P := P) (w := w) (base := base) T c_L_draw
  have c_L_given := ok_L_given (P := P) (w := w) (base := base) T 
  have c_trees_checked := ok_trees_checked (P := P) (w := w) (base := base) T 
  have c_trees_list_of := ok_trees_list_of (P := P) (w := w) (base := base) T c_trees_checked
  have c_L_told := ok_L_told (P := P) (w := w) (base := base) T c_L_given c_trees_list_of
  have c_L_stream := ok_L_stream (P := P) (w := w) (base := base) T 
  exact ok_L_law T F c_L_items c_trees_items_of c_L_tree c_L_draw c_L_told c_L_stream
theorem fin_mk {P : Program} {w : World} {K : PySem.W.Frag} {h : Heap} {mg : Str → Option Value} {fa : Addr} (X : K.In h) (G : h.Ns mainGlobals mg) (hfa : mg "law" = some (.ref fa))
    {C1 : Addr} (a1 : PySem.W.nsIn K mainGlobals "NarcissusError" = some (some (.ref C1))) (x1 : PySem.W.excIn K C1 [.type "ValueError", .type "Exception", .type "BaseException", .type "object"] "ValueError.__new__" = true) (k1 : PySem.W.keepIn K (.ref C1) = true) (s1 : PySem.W.subIn K (.ref C1) (.type "BaseException") = some true) (t1 : PySem.W.typeIn K (.ref C1) = some (.type "type")) (i1 : PySem.W.isClsIn K C1 = true)
    {C2 : Addr} (a2 : PySem.W.nsIn K mainGlobals "TooLarge" = some (some (.ref C2))) (x2 : PySem.W.excIn K C2 [.type "ValueError", .type "Exception", .type "BaseException", .type "object"] "ValueError.__new__" = true) (k2 : PySem.W.keepIn K (.ref C2) = true) (s2 : PySem.W.subIn K (.ref C2) (.type "BaseException") = some true) (t2 : PySem.W.typeIn K (.ref C2) = some (.type "type")) (i2 : PySem.W.isClsIn K C2 = true)
    (p3 : PySem.W.subIn K (.ref C1) (.ref C2) = some false)
    (p4 : PySem.W.subIn K (.ref C2) (.ref C2) = some true)
    {tk5 : Tok} (z5 : PySem.W.nsIn K mainGlobals "LEAF" = some (some (.str "0" tk5)))
    {tk6 : Tok} (z6 : PySem.W.nsIn K mainGlobals "MOST_TREE" = some (some (.int 200000 tk6)))
    (z7 : PySem.W.nsIn K mainGlobals "abs" = some none)
    (z8 : PySem.W.nsIn K mainGlobals "int" = some none)
    (z9 : PySem.W.nsIn K mainGlobals "isinstance" = some none)
    (z10 : PySem.W.nsIn K mainGlobals "len" = some none)
    (z11 : PySem.W.nsIn K mainGlobals "list" = some none)
    (z12 : PySem.W.nsIn K mainGlobals "range" = some none)
    (z13 : PySem.W.nsIn K mainGlobals "tuple" = some none)
    {f14 : Addr} {od14 an14 : Option Addr} {sl14 : Array (Option Value)} {oc14 kV14 dc14 pm14 cd14 ct14 : Value}
    (a14 : PySem.W.nsIn K mainGlobals "_law_end" = some (some (.ref f14))) (l14 : K.lookup f14 = some ⟨oc14, od14, .func (PySem.W.fnOf "_law_end" "_law_end" (defArgs s_L_end) (defBody s_L_end) (defScope s_L_end) .none kV14 dc14 pm14 an14 cd14 ct14), sl14⟩) (c14 : PySem.W.codeIn K cd14 "_law_end" = true) (k14 : PySem.W.keepIn K (.ref f14) = true)
    {f15 : Addr} {od15 an15 : Option Addr} {sl15 : Array (Option Value)} {oc15 kV15 dc15 pm15 cd15 ct15 : Value}
    (a15 : PySem.W.nsIn K mainGlobals "_law_tail" = some (some (.ref f15))) (l15 : K.lookup f15 = some ⟨oc15, od15, .func (PySem.W.fnOf "_law_tail" "_law_tail" (defArgs s_L_tail) (defBody s_L_tail) (defScope s_L_tail) .none kV15 dc15 pm15 an15 cd15 ct15), sl15⟩) (c15 : PySem.W.codeIn K cd15 "_law_tail" = true) (k15 : PySem.W.keepIn K (.ref f15) = true)
    {f16 : Addr} {od16 an16 : Option Addr} {sl16 : Array (Option Value)} {oc16 kV16 dc16 pm16 cd16 ct16 : Value}
    (a16 : PySem.W.nsIn K mainGlobals "_law_head" = some (some (.ref f16))) (l16 : K.lookup f16 = some ⟨oc16, od16, .func (PySem.W.fnOf "_law_head" "_law_head" (defArgs s_L_head) (defBody s_L_head) (defScope s_L_head) .none kV16 dc16 pm16 an16 cd16 ct16), sl16⟩) (c16 : PySem.W.codeIn K cd16 "_law_head" = true) (k16 : PySem.W.keepIn K (.ref f16) = true)
    {f17 : Addr} {od17 an17 : Option Addr} {sl17 : Array (Option Value)} {oc17 kV17 dc17 pm17 cd17 ct17 : Value}
    (a17 : PySem.W.nsIn K mainGlobals "_law_items" = some (some (.ref f17))) (l17 : K.lookup f17 = some ⟨oc17, od17, .func (PySem.W.fnOf "_law_items" "_law_items" (defArgs s_L_items) (defBody s_L_items) (defScope s_L_items) .none kV17 dc17 pm17 an17 cd17 ct17), sl17⟩) (c17 : PySem.W.codeIn K cd17 "_law_items" = true) (k17 : PySem.W.keepIn K (.ref f17) = true)
    {f18 : Addr} {od18 an18 : Option Addr} {sl18 : Array (Option Value)} {oc18 kV18 dc18 pm18 cd18 ct18 : Value}
    (a18 : PySem.W.nsIn K mainGlobals "end_of" = some (some (.ref f18))) (l18 : K.lookup f18 = some ⟨oc18, od18, .func (PySem.W.fnOf "end_of" "end_of" (defArgs s_trees_end_of) (defBody s_trees_end_of) (defScope s_trees_end_of) .none kV18 dc18 pm18 an18 cd18 ct18), sl18⟩) (c18 : PySem.W.codeIn K cd18 "end_of" = true) (k18 : PySem.W.keepIn K (.ref f18) = true)
    {f19 : Addr} {od19 an19 : Option Addr} {sl19 : Array (Option Value)} {oc19 kV19 dc19 pm19 cd19 ct19 : Value}
    (a19 : PySem.W.nsIn K mainGlobals "items_of" = some (some (.ref f19))) (l19 : K.lookup f19 = some ⟨oc19, od19, .func (PySem.W.fnOf "items_of" "items_of" (defArgs s_trees_items_of) (defBody s_trees_items_of) (defScope s_trees_items_of) .none kV19 dc19 pm19 an19 cd19 ct19), sl19⟩) (c19 : PySem.W.codeIn K cd19 "items_of" = true) (k19 : PySem.W.keepIn K (.ref f19) = true)
    {f20 : Addr} {od20 an20 : Option Addr} {sl20 : Array (Option Value)} {oc20 kV20 dc20 pm20 cd20 ct20 : Value}
    (a20 : PySem.W.nsIn K mainGlobals "_law_draw" = some (some (.ref f20))) (l20 : K.lookup f20 = some ⟨oc20, od20, .func (PySem.W.fnOf "_law_draw" "_law_draw" (defArgs s_L_draw) (defBody s_L_draw) (defScope s_L_draw) .none kV20 dc20 pm20 an20 cd20 ct20), sl20⟩) (c20 : PySem.W.codeIn K cd20 "_law_draw" = true) (k20 : PySem.W.keepIn K (.ref f20) = true)
    {f21 : Addr} {od21 an21 : Option Addr} {sl21 : Array (Option Value)} {oc21 kV21 dc21 pm21 cd21 ct21 : Value}
    (a21 : PySem.W.nsIn K mainGlobals "_law_tree" = some (some (.ref f21))) (l21 : K.lookup f21 = some ⟨oc21, od21, .func (PySem.W.fnOf "_law_tree" "_law_tree" (defArgs s_L_tree) (defBody s_L_tree) (defScope s_L_tree) .none kV21 dc21 pm21 an21 cd21 ct21), sl21⟩) (c21 : PySem.W.codeIn K cd21 "_law_tree" = true) (k21 : PySem.W.keepIn K (.ref f21) = true)
    {f22 : Addr} {od22 an22 : Option Addr} {sl22 : Array (Option Value)} {oc22 kV22 dc22 pm22 cd22 ct22 : Value}
    (a22 : PySem.W.nsIn K mainGlobals "_law_given" = some (some (.ref f22))) (l22 : K.lookup f22 = some ⟨oc22, od22, .func (PySem.W.fnOf "_law_given" "_law_given" (defArgs s_L_given) (defBody s_L_given) (defScope s_L_given) .none kV22 dc22 pm22 an22 cd22 ct22), sl22⟩) (c22 : PySem.W.codeIn K cd22 "_law_given" = true) (k22 : PySem.W.keepIn K (.ref f22) = true)
    {f23 : Addr} {od23 an23 : Option Addr} {sl23 : Array (Option Value)} {oc23 kV23 dc23 pm23 cd23 ct23 : Value}
    (a23 : PySem.W.nsIn K mainGlobals "checked" = some (some (.ref f23))) (l23 : K.lookup f23 = some ⟨oc23, od23, .func (PySem.W.fnOf "checked" "checked" (defArgs s_trees_checked) (defBody s_trees_checked) (defScope s_trees_checked) .none kV23 dc23 pm23 an23 cd23 ct23), sl23⟩) (c23 : PySem.W.codeIn K cd23 "checked" = true) (k23 : PySem.W.keepIn K (.ref f23) = true)
    {f24 : Addr} {od24 an24 : Option Addr} {sl24 : Array (Option Value)} {oc24 kV24 dc24 pm24 cd24 ct24 : Value}
    (a24 : PySem.W.nsIn K mainGlobals "list_of" = some (some (.ref f24))) (l24 : K.lookup f24 = some ⟨oc24, od24, .func (PySem.W.fnOf "list_of" "list_of" (defArgs s_trees_list_of) (defBody s_trees_list_of) (defScope s_trees_list_of) .none kV24 dc24 pm24 an24 cd24 ct24), sl24⟩) (c24 : PySem.W.codeIn K cd24 "list_of" = true) (k24 : PySem.W.keepIn K (.ref f24) = true)
    {f25 : Addr} {od25 an25 : Option Addr} {sl25 : Array (Option Value)} {oc25 kV25 dc25 pm25 cd25 ct25 : Value}
    (a25 : PySem.W.nsIn K mainGlobals "_law_told" = some (some (.ref f25))) (l25 : K.lookup f25 = some ⟨oc25, od25, .func (PySem.W.fnOf "_law_told" "_law_told" (defArgs s_L_told) (defBody s_L_told) (defScope s_L_told) .none kV25 dc25 pm25 an25 cd25 ct25), sl25⟩) (c25 : PySem.W.codeIn K cd25 "_law_told" = true) (k25 : PySem.W.keepIn K (.ref f25) = true)
    {f26 : Addr} {od26 an26 : Option Addr} {sl26 : Array (Option Value)} {oc26 kV26 dc26 pm26 cd26 ct26 : Value}
    (a26 : PySem.W.nsIn K mainGlobals "_law_stream" = some (some (.ref f26))) (l26 : K.lookup f26 = some ⟨oc26, od26, .func (PySem.W.fnOf "_law_stream" "_law_stream" (defArgs s_L_stream) (defBody s_L_stream) (defScope s_L_stream) .none kV26 dc26 pm26 an26 cd26 ct26), sl26⟩) (c26 : PySem.W.codeIn K cd26 "_law_stream" = true) (k26 : PySem.W.keepIn K (.ref f26) = true)
    {f0 : Addr} {od0 an0 : Option Addr} {sl0 : Array (Option Value)} {oc0 kV0 dc0 pm0 cd0 ct0 : Value}
    (a0 : PySem.W.nsIn K mainGlobals "law" = some (some (.ref f0))) (l0 : K.lookup f0 = some ⟨oc0, od0, .func (PySem.W.fnOf "law" "law" (defArgs s_L_law) (defBody s_L_law) (defScope s_L_law) .none kV0 dc0 pm0 an0 cd0 ct0), sl0⟩) (c0 : PySem.W.codeIn K cd0 "law" = true) (k0 : PySem.W.keepIn K (.ref f0) = true)
    : ∃ fd : FuncData, (∀ (s : Shared) (u : Value), BindsTo s fd ⟨[u], []⟩ [("_law_script", u)]) ∧ ∀ base : Heap, K.In base → base.Ns mainGlobals mg → FnOk P w K mg base CX0 4 fa fd ["_law_script"] (spLaw K mg) := by
  have e := hfa.symm.trans (PySem.W.mg_of X G a0)
  cases e
  exact ⟨PySem.W.fnOf "law" "law" (defArgs s_L_law) (defBody s_L_law) (defScope s_L_law) .none kV0 dc0 pm0 an0 cd0 ct0, fun s u => .of_eq rfl, fun base _ _ => all_ok (txt_mk X G a1 x1 k1 s1 t1 i1 a2 x2 k2 s2 t2 i2 p3 p4 z5 z6 z7 z8 z9 z10 z11 z12 z13 a14 l14 c14 k14 a15 l15 c15 k15 a16 l16 c16 k16 a17 l17 c17 k17 a18 l18 c18 k18 a19 l19 c19 k19 a20 l20 c20 k20 a21 l21 c21 k21 a22 l22 c22 k22 a23 l23 c23 k23 a24 l24 c24 k24 a25 l25 c25 k25 a26 l26 c26 k26) (L2.fun_mk l0 c0 k0)⟩
end NV
open PySem PySem.W PyProof.Rows in
set_option maxRecDepth 100000 in
set_option maxHeartbeats 0 in
theorem PySem.Challenge.cw_narcissus_k04_lists_holds : PySem.Challenge.rw_narcissus_k04_lists.Holds := by
  w_on; o_law; k_head; (case hw => w_witness2)
  k_fill
  refine NV.walk_law (l := PySem.Challenge.rw_narcissus_k04_lists) (k := 4) rfl rfl (by decide) (fun w h Y => PySem.W.kIn_of Y) ?F
  case F =>
    intro w mg fa h KX G hmg
    refine' NV.fin_mk KX G hmg ?a1 ?x1 ?k1 ?s1 ?t1 ?i1 ?a2 ?x2 ?k2 ?s2 ?t2 ?i2 ?p3 ?p4 ?z5 ?z6 ?z7 ?z8 ?z9 ?z10 ?z11 ?z12 ?z13 ?a14 ?l14 ?c14 ?k14 ?a15 ?l15 ?c15 ?k15 ?a16 ?l16 ?c16 ?k16 ?a17 ?l17 ?c17 ?k17 ?a18 ?l18 ?c18 ?k18 ?a19 ?l19 ?c19 ?k19 ?a20 ?l20 ?c20 ?k20 ?a21 ?l21 ?c21 ?k21 ?a22 ?l22 ?c22 ?k22 ?a23 ?l23 ?c23 ?k23 ?a24 ?l24 ?c24 ?k24 ?a25 ?l25 ?c25 ?k25 ?a26 ?l26 ?c26 ?k26 ?a0 ?l0 ?c0 ?k0
    (case a1 => k_is)
    (case x1 => k_exc)
    (case k1 => k_is)
    (case s1 => k_is)
    (case t1 => k_is)
    (case i1 => k_is)
    (case a2 => k_is)
    (case x2 => k_exc)
    (case k2 => k_is)
    (case s2 => k_is)
    (case t2 => k_is)
    (case i2 => k_is)
    (case p3 => first | k_is | rfl)
    (case p4 => first | k_is | rfl)
    (case z5 => k_is)
    (case z6 => k_is)
    (case z7 => k_is)
    (case z8 => k_is)
    (case z9 => k_is)
    (case z10 => k_is)
    (case z11 => k_is)
    (case z12 => k_is)
    (case z13 => k_is)
    (case a14 => k_is)
    (case l14 => k_is)
    (case c14 => k_is)
    (case k14 => k_is)
    (case a15 => k_is)
    (case l15 => k_is)
    (case c15 => k_is)
    (case k15 => k_is)
    (case a16 => k_is)
    (case l16 => k_is)
    (case c16 => k_is)
    (case k16 => k_is)
    (case a17 => k_is)
    (case l17 => k_is)
    (case c17 => k_is)
    (case k17 => k_is)
    (case a18 => k_is)
    (case l18 => k_is)
    (case c18 => k_is)
    (case k18 => k_is)
    (case a19 => k_is)
    (case l19 => k_is)
    (case c19 => k_is)
    (case k19 => k_is)
    (case a20 => k_is)
    (case l20 => k_is)
    (case c20 => k_is)
    (case k20 => k_is)
    (case a21 => k_is)
    (case l21 => k_is)
    (case c21 => k_is)
    (case k21 => k_is)
    (case a22 => k_is)
    (case l22 => k_is)
    (case c22 => k_is)
    (case k22 => k_is)
    (case a23 => k_is)
    (case l23 => k_is)
    (case c23 => k_is)
    (case k23 => k_is)
    (case a24 => k_is)
    (case l24 => k_is)
    (case c24 => k_is)
    (case k24 => k_is)
    (case a25 => k_is)
    (case l25 => k_is)
    (case c25 => k_is)
    (case k25 => k_is)
    (case a26 => k_is)
    (case l26 => k_is)
    (case c26 => k_is)
    (case k26 => k_is)
    (case a0 => k_is)
    (case l0 => k_is)
    (case c0 => k_is)
    (case k0 => k_is)
#print axioms PySem.Challenge.cw_narcissus_k04_lists_holds

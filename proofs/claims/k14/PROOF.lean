import PyProof.Rows.All
import Wide.All
import OpenK.AllK
import Wide.FinOn
import HandS.ForMost
import HandS.ForExc
import HandS.TupAny
import HandS.TupMul
import HandS.IsInst
import HandS.Style
import HandS.Rev
import HandS.RevRange
import HandS.Evl
import HandS.ExcIs
import HandS.More
import HandS.Zip
import PyProof.StrOps2
import PySem.Challenge.RW_narcissus_k14_chains
set_option Elab.async false
set_option linter.all false
set_option maxRecDepth 100000
set_option maxHeartbeats 4000000
set_option Elab.async false
set_option linter.all false
set_option maxRecDepth 100000
set_option maxHeartbeats 4000000
/-! # universal operators: readings that follow the values -/
namespace NV
open PySem PySem.Spec PyProof.Rows L2
section
variable {X : Cx}
theorem PEwk {e : Expr} {t t' : TE} (h : PE X e t) (w : ∀ σ H Q, t' σ H Q → t σ H Q) : PE X e t' :=
  ⟨fun p s σ H Q I q => h.run p s σ H Q I (w _ _ _ q)⟩
theorem PTwk {e : Expr} {t t' : TT} (h : PT X e t) (w : ∀ σ H Q, t' σ H Q → t σ H Q) : PT X e t' :=
  ⟨fun p s σ H Q I q => h.run p s σ H Q I (w _ _ _ q)⟩
theorem OpWk {f : Value → Value → Sem Value} {r r' : R2} (h : OpR X f r) (w : ∀ x y H Q, r' x y H Q → r x y H Q) : OpR X f r' :=
  fun pins s σ H x y v u Q I rx ry q => h pins s σ H x y v u Q I rx ry (w _ _ _ _ q)
theorem CallWk {f : Value} {r r' : List V → Hp → VK → Prop} (h : CallR X f r) (w : ∀ xs H Q, r' xs H Q → r xs H Q) : CallR X f r' :=
  fun pins s σ H xs us Q I r q => h pins s σ H xs us Q I r (w _ _ _ q)
/-! ### a name -/
def mV (i : Nat) : TE := fun σ H Q => match σ[i]? with
  | some (some v) => Q v H
  | _ => False
theorem nv (i : Nat) {x : Str} {pos : Pos} (hN : X.N[i]? = some x := by rfl) (hv : Vis X.env.scope x := by first | exact Or.inl rfl | exact Or.inr (Or.inl rfl) | exact Or.inr (Or.inr rfl)) (hd : (x == ("__debug__" : Str)) = false := by decide)
    (hcd : (x == ("__classdict__" : Str)) = false := by decide) : PE X (.Name x pos) (mV i) := PEwk (pe_var hN hv hd hcd) fun σ H Q h => by
  unfold mV at h
  split at h
  · exact ⟨_, by assumption, h⟩
  · exact h.elim
/-! ### a list or a tuple that is read -/
def SqA (K : PySem.W.Frag) (H : Hp) (a : Addr) (xs : List V) : Prop := SqL K H a xs ∨ SqT K H a xs
theorem SqA.l {K : PySem.W.Frag} {H : Hp} {a : Addr} {xs : List V} (h : H a = some (.lst xs)) : SqA K H a xs := .inl (.of h)
theorem SqA.t {K : PySem.W.Frag} {H : Hp} {a : Addr} {xs : List V} (h : H a = some (.tup xs)) : SqA K H a xs := .inr (.of h)
/-! ### + - * // % -/
def rAddU (K : PySem.W.Frag) : R2 := fun x y H Q => match x, y with
  | .int i, .int j => Q (.int (i + j)) H
  | .int i, .bl k => Q (.int (i + b2i k)) H
  | .str a, .str b => a.length + b.length ≤ sizeLine ∧ Q (.str (a ++ b)) H
  | .ref a, .ref b => rCat (.ref a) (.ref b) H Q ∨ rCatA K (.ref a) (.ref b) H Q
  | _, _ => False
theorem oAdd {K : PySem.W.Frag} (hK : X.K = K := by rfl) : OpR X (binaryOp .Add) (rAddU K) := fun pins s σ H x y v u Q I rx ry h => by
  subst hK
  cases x <;> cases y <;> first
    | exact op_add pins s σ H _ _ v u Q I rx ry ⟨_, _, rfl, rfl, h⟩
    | exact op_add_ib pins s σ H _ _ v u Q I rx ry ⟨_, _, rfl, rfl, h⟩
    | exact op_add_str pins s σ H _ _ v u Q I rx ry ⟨_, _, rfl, rfl, h.1, h.2⟩
    | exact h.elim (fun h => op_cat pins s σ H _ _ v u Q I rx ry h) (fun h => op_catA pins s σ H _ _ v u Q I rx ry h)
    | exact False.elim h
def rSubU : R2 := fun x y H Q => match x, y with
  | .int i, .int j => Q (.int (i - j)) H
  | _, _ => False
theorem oSub : OpR X (binaryOp .Sub) rSubU := fun pins s σ H x y v u Q I rx ry h => by
  cases x <;> cases y <;> first
    | exact op_sub pins s σ H _ _ v u Q I rx ry ⟨_, _, rfl, rfl, h⟩
    | exact False.elim h
/-- the text z, n times -/
def repS (z : Str) (n : Nat) : Str := ⟨(List.replicate n z.cps.toList).flatten.toArray⟩
theorem foldl_repS (z : List Nat) : ∀ (n : Nat) (acc : List Nat), (List.replicate n z.toArray).foldl (fun x y => x ++ y) acc.toArray = (acc ++ (List.replicate n z).flatten).toArray := by
  intro n
  induction n with
  | zero => intro acc; simp
  | succ n ih =>
    intro acc
    rw [List.replicate_succ, List.foldl_cons, List.append_toArray, ih, List.replicate_succ, List.flatten_cons, List.append_assoc]
def rMulU (K : PySem.W.Frag) : R2 := fun x y H Q => match x, y with
  | .int i, .int j => CMul i j ∧ Q (.int (i * j)) H
  | .str a, .int n => (-(2 ^ 63) < n ∧ n < 2 ^ 62 ∧ a.length * n.toNat ≤ 10000000) ∧ Q (.str (repS a n.toNat)) H
  | .ref a, .int n => rRep (.ref a) (.int n) H Q ∨ rRepT K (.ref a) (.int n) H Q
  | _, _ => False
theorem repS_one (z : Str) : repS z 1 = z := by
  obtain ⟨⟨l⟩⟩ := z
  unfold repS
  rw [List.replicate_one, List.flatten_singleton]
theorem repS_nil (n : Nat) (z : Str) (h : z.length = 0) : repS z n = z := by
  obtain ⟨⟨l⟩⟩ := z
  have e : l = [] := List.length_eq_zero_iff.mp h
  subst e
  unfold repS
  rw [List.flatten_replicate_nil]
theorem repS_length (z : Str) (n : Nat) : (repS z n).length = z.length * n := by
  obtain ⟨⟨l⟩⟩ := z
  show (List.replicate n l).flatten.toArray.size = l.length * n
  rw [List.size_toArray, List.length_flatten, List.map_replicate, List.sum_replicate_nat, Nat.mul_comm]
theorem oMul {K : PySem.W.Frag} (hK : X.K = K := by rfl) : OpR X (binaryOp .Mult) (rMulU K) := fun pins s σ H x y v u Q I rx ry h => by
  subst hK
  cases x <;> cases y <;> first
    | exact op_mul pins s σ H _ _ v u Q I rx ry ⟨_, _, rfl, rfl, h.1, h.2⟩
    | exact h.elim (fun h => op_rep pins s σ H _ _ v u Q I rx ry h) (fun h => op_repT pins s σ H _ _ v u Q I rx ry h)
    | exact False.elim h
    | skip
  rename_i a n
  obtain ⟨⟨h1, h2, h3⟩, q⟩ := h
  obtain ⟨t, rfl⟩ := rx
  obtain ⟨t', rfl⟩ := ry
  have hz : sizeLine = 16777216 := sizeLine_eq
  by_cases hn : n < 1
  · have e : n.toNat = 0 := by omega
    rw [e] at q
    exact PySem.P.mul_str_none hn (by omega) ⟨.str (repS a 0), H, I.tok _, ⟨_, rfl⟩, q⟩
  · refine PySem.P.mul_str (by rw [decide_eq_false (by omega), decide_eq_false (by omega)]; rfl) (fun _ hc => ?_) (fun _ _ => ?_) ?_
    · have hl : 0 < a.length := by
        rw [Bool.or_eq_false_iff] at hc
        have := hc.2
        rw [beq_eq_false_iff_ne] at this
        omega
      intro hgt
      have hn0 : (0 : Int) < n := by omega
      have h5 : (a.length : Int) * n ≤ 10000000 := by
        have e : ((a.length * n.toNat : Nat) : Int) = (a.length : Int) * n := by
          rw [Int.natCast_mul, Int.toNat_of_nonneg (by omega)]
        rw [← e]
        exact Int.ofNat_le.mpr h3
      have h6 : (2 ^ 63 - 1) / n * n ≤ 2 ^ 63 - 1 := Int.ediv_mul_le _ (by omega)
      have h7 : (2 ^ 63 - 1) / n < (a.length : Int) := hgt
      have h9 : n ≤ 10000000 := by
        have : (1 : Int) * n ≤ (a.length : Int) * n := Int.mul_le_mul_of_nonneg_right (by omega) (by omega)
        omega
      have h10 : (a.length : Int) ≤ 10000000 := by
        have : (a.length : Int) * 1 ≤ (a.length : Int) * n := Int.mul_le_mul_of_nonneg_left (by omega) (by omega)
        omega
      have h11 : (2 ^ 63 - 1) / n ≥ 10000000 := by
        refine Int.le_ediv_of_mul_le hn0 ?_
        have : 10000000 * n ≤ 10000000 * 10000000 := Int.mul_le_mul_of_nonneg_left h9 (by omega)
        omega
      omega
    · show decide (a.length * n.toNat > sizeLine) = false
      exact decide_eq_false (by omega)
    · rw [if_neg hn]
      by_cases hc : (n == 1 || a.length == 0) = true
      · rw [if_pos hc]
        have e : repS a n.toNat = a := by
          rw [Bool.or_eq_true] at hc
          rcases hc with hc | hc
          · have : n = 1 := by simpa using hc
            rw [this]
            exact repS_one a
          · exact repS_nil _ _ (by simpa using hc)
        rw [e] at q
        exact ⟨.str a, H, I, ⟨_, rfl⟩, q⟩
      · rw [if_neg hc]
        have e : (⟨(List.replicate n.toNat a.cps).foldl (· ++ ·) #[]⟩ : Str) = repS a n.toNat := by
          have := foldl_repS a.cps.toList n.toNat []
          rw [List.nil_append] at this
          unfold repS
          rw [← this]
        rw [e]
        exact ⟨by rw [repS_length]; omega, .str (repS a n.toNat), H, I.tok _, ⟨_, rfl⟩, q⟩
def rDivU : R2 := fun x y H Q => match x, y with
  | .int i, .int j => CDiv i j ∧ Q (.int (i / j)) H
  | _, _ => False
theorem oDiv : OpR X (binaryOp .FloorDiv) rDivU := fun pins s σ H x y v u Q I rx ry h => by
  cases x <;> cases y <;> first
    | exact op_fdiv pins s σ H _ _ v u Q I rx ry ⟨_, _, rfl, rfl, h.1, h.2⟩
    | exact False.elim h
def rModU : R2 := fun x y H Q => match x, y with
  | .int i, .int j => 0 < j ∧ Q (.int (i % j)) H
  | _, _ => False
theorem oMod : OpR X (binaryOp .Mod) rModU := fun pins s σ H x y v u Q I rx ry h => by
  cases x <;> cases y <;> first
    | exact op_mod pins s σ H _ _ v u Q I rx ry ⟨_, _, rfl, rfl, h.1, h.2⟩
    | exact False.elim h
/-! ### comparisons -/
def rEqU (K : PySem.W.Frag) : R2 := fun x y H Q => match scal x y with
  | true => Q (.bl (decide (x = y))) H
  | false => rEqD K x y H Q
theorem oEq {K : PySem.W.Frag} (hu : X.A.units + 64 < cLine) (hK : X.K = K := by rfl) : OpR X (compareOp .Eq) (rEqU K) := fun pins s σ H x y v u Q I rx ry h => by
  subst hK
  unfold rEqU at h
  cases e : scal x y with
  | true => rw [e] at h; exact op_eq pins s σ H _ _ v u Q I rx ry ⟨e, h⟩
  | false => rw [e] at h; exact op_eqD hu pins s σ H _ _ v u Q I rx ry h
def rNeU (K : PySem.W.Frag) : R2 := fun x y H Q => match scal x y with
  | true => Q (.bl (!decide (x = y))) H
  | false => rNeD K x y H Q
theorem oNe {K : PySem.W.Frag} (hu : X.A.units + 64 < cLine) (hK : X.K = K := by rfl) : OpR X (compareOp .NotEq) (rNeU K) := fun pins s σ H x y v u Q I rx ry h => by
  subst hK
  unfold rNeU at h
  cases e : scal x y with
  | true => rw [e] at h; exact op_ne pins s σ H _ _ v u Q I rx ry ⟨e, h⟩
  | false => rw [e] at h; exact op_neD hu pins s σ H _ _ v u Q I rx ry h
def rCI (p : Int → Int → Bool) : R2 := fun x y H Q => match x, y with
  | .int i, .int j => Q (.bl (p i j)) H
  | _, _ => False
theorem oLt : OpR X (compareOp .Lt) (rCI fun i j => decide (i < j)) := fun pins s σ H x y v u Q I rx ry h => by
  cases x <;> cases y <;> first
    | exact op_lt pins s σ H _ _ v u Q I rx ry ⟨_, _, rfl, rfl, h⟩
    | exact False.elim h
theorem oLe : OpR X (compareOp .LtE) (rCI fun i j => decide (i ≤ j)) := fun pins s σ H x y v u Q I rx ry h => by
  cases x <;> cases y <;> first
    | exact op_le pins s σ H _ _ v u Q I rx ry ⟨_, _, rfl, rfl, h⟩
    | exact False.elim h
theorem oGt : OpR X (compareOp .Gt) (rCI fun i j => decide (j < i)) := fun pins s σ H x y v u Q I rx ry h => by
  cases x <;> cases y <;> first
    | exact op_gt pins s σ H _ _ v u Q I rx ry ⟨_, _, rfl, rfl, h⟩
    | exact False.elim h
theorem oGe : OpR X (compareOp .GtE) (rCI fun i j => decide (j ≤ i)) := fun pins s σ H x y v u Q I rx ry h => by
  cases x <;> cases y <;> first
    | exact op_ge pins s σ H _ _ v u Q I rx ry ⟨_, _, rfl, rfl, h⟩
    | exact False.elim h
def rIsU : R2 := fun x y H Q => match x, y with
  | .bl a, .bl b => Q (.bl (decide (a = b))) H
  | _, .non => Q (.bl (decide (x = .non))) H
  | _, _ => False
theorem oIs : OpR X (compareOp .Is) rIsU := fun pins s σ H x y v u Q I rx ry h => by
  cases y with
  | non => exact op_isN pins s σ H _ _ v u Q I rx ry ⟨rfl, by cases x <;> exact h⟩
  | bl b =>
    cases x with
    | bl a => exact op_isBl pins s σ H _ _ v u Q I rx ry ⟨a, b, rfl, rfl, h⟩
    | _ => exact False.elim h
  | _ => cases x <;> exact False.elim h
def rIsNotU : R2 := fun x y H Q => match x, y with
  | .bl a, .bl b => Q (.bl (!decide (a = b))) H
  | _, .non => Q (.bl (!decide (x = .non))) H
  | _, _ => False
theorem oIsNot : OpR X (compareOp .IsNot) rIsNotU := fun pins s σ H x y v u Q I rx ry h => by
  cases y with
  | non => exact op_notN pins s σ H _ _ v u Q I rx ry ⟨rfl, by cases x <;> exact h⟩
  | bl b =>
    cases x with
    | bl a => exact op_notBl pins s σ H _ _ v u Q I rx ry ⟨a, b, rfl, rfl, h⟩
    | _ => exact False.elim h
  | _ => cases x <;> exact False.elim h
def rInU (K : PySem.W.Frag) : R2 := fun x y H Q => match y with
  | .str z => ∃ c, x = .str ⟨#[c]⟩ ∧ Q (.bl (decide (c ∈ z.cps.toList))) H
  | .ref p => ∃ xs, SqA K H p xs ∧ flatV x = true ∧ xs.all flatV = true ∧ Q (.bl (inV x xs)) H
  | _ => False
theorem oIn {K : PySem.W.Frag} (hK : X.K = K := by rfl) : OpR X (compareOp .In) (rInU K) := fun pins s σ H x y v u Q I rx ry h => by
  subst hK
  cases y with
  | str z =>
    obtain ⟨c, e, q⟩ := h
    exact op_in_sign pins s σ H _ _ v u Q I rx ry ⟨c, z, e, rfl, q⟩
  | ref p =>
    obtain ⟨xs, hs, h1, h2, q⟩ := h
    exact op_in_seq pins s σ H _ _ v u Q I rx ry ⟨p, xs, rfl, hs, h1, h2, q⟩
  | _ => exact False.elim h
def rNotInU (K : PySem.W.Frag) : R2 := fun x y H Q => match y with
  | .str z => ∃ c, x = .str ⟨#[c]⟩ ∧ Q (.bl (!decide (c ∈ z.cps.toList))) H
  | .ref p => ∃ xs, SqA K H p xs ∧ flatV x = true ∧ xs.all flatV = true ∧ Q (.bl (!inV x xs)) H
  | _ => False
theorem oNotIn {K : PySem.W.Frag} (hK : X.K = K := by rfl) : OpR X (compareOp .NotIn) (rNotInU K) := fun pins s σ H x y v u Q I rx ry h => by
  subst hK
  cases y with
  | str z =>
    obtain ⟨c, e, q⟩ := h
    exact op_notIn_sign pins s σ H _ _ v u Q I rx ry ⟨c, z, e, rfl, q⟩
  | ref p =>
    obtain ⟨xs, hs, h1, h2, q⟩ := h
    exact op_notIn_seq pins s σ H _ _ v u Q I rx ry ⟨p, xs, rfl, hs, h1, h2, q⟩
  | _ => exact False.elim h
/-- in a tuple of tuples -/
def rInDT (K : PySem.W.Frag) : R2 := fun x y H Q => ∃ d ds, Dp K H x d ∧ Dp K H y (.tuple ds) ∧ SeqAt.shaped d = true ∧ SeqAt.shaped (.tuple ds) = true ∧ Q (.bl (ds.any fun z => PyData.eqv z d)) H
theorem oInD {K : PySem.W.Frag} {k : Nat} (hr : Room k X.A) (hK : X.K = K := by rfl) : OpR X (compareOp .In) (rInDT K) := by
  subst hK
  intro pins s σ H x y v u Q I rx ry h
  obtain ⟨d, ds, hd, he, sd, se, q⟩ := h
  obtain ⟨as, r1⟩ := Dp.reads I d x v hd rx
  obtain ⟨bs, r2⟩ := Dp.reads I (.tuple ds) y u he ry
  exact SeqAt.in_tuple_reads r2 r1 (SeqAt.canLay_of_shaped se) (SeqAt.canLay_of_shaped sd) (room_in_shaped sd (by have := hr.un; omega)) ⟨.bl _, H, I, rfl, q⟩
/-! ### x[i], x[a:b] -/
def rIxU (K : PySem.W.Frag) : R2 := fun x y H Q => match x, y with
  | .str z, .int i => z.length ≤ sizeLine ∧ ∃ c, atI z.cps.toList i = some c ∧ Q (.str ⟨#[c]⟩) H
  | .ref p, .int i => ∃ xs v, SqA K H p xs ∧ atI xs i = some v ∧ Q v H
  | _, _ => False
theorem ixU {K : PySem.W.Frag} (hK : X.K = K := by rfl) : IxR X (rIxU K) := fun a b pins s σ H x y v u Q I rx ry h hs => by
  subst hK
  refine ix_seq a b pins s σ H x y v u Q I rx ry ?_ hs
  cases x <;> cases y <;> first
    | (exact False.elim h)
    | (obtain ⟨hz, c, e, q⟩ := h; exact Or.inr (Or.inr ⟨_, _, c, rfl, rfl, hz, e, q⟩))
    | (obtain ⟨xs, v, hq, e, q⟩ := h
       rcases hq with hq | hq
       · exact Or.inl ⟨_, xs, _, v, rfl, rfl, hq, e, q⟩
       · exact Or.inr (Or.inl ⟨_, xs, _, v, rfl, rfl, hq, e, q⟩))
def rSlU (K : PySem.W.Frag) : V → Option Int → Option Int → Hp → VK → Prop := fun x lo hi H Q => match x with
  | .str z => z.length ≤ sizeLine ∧ Q (.str (cutS z lo hi)) H
  | .ref a => rSlL K (.ref a) lo hi H Q ∨ rSlA K (.ref a) lo hi H Q
  | _ => False
theorem slU {K : PySem.W.Frag} (hK : X.K = K := by rfl) : SlR X (rSlU K) := by
  subst hK
  intro pins s σ H x v vl vu lo hi sl Q I rx hs pl pu h
  cases x with
  | str z => exact sl_str pins s σ H _ v vl vu lo hi sl Q I rx hs pl pu ⟨z, rfl, h.1, h.2⟩
  | ref a =>
    rcases h with h | h
    · exact sl_list pins s σ H _ v vl vu lo hi sl Q I rx hs pl pu h
    · exact sl_tupA pins s σ H _ v vl vu lo hi sl Q I rx hs pl pu h
  | _ => exact False.elim h
/-! ### built-in calls -/
def rLenU (K : PySem.W.Frag) : List V → Hp → VK → Prop := fun vs H Q => match vs with
  | [.str z] => z.length ≤ sizeLine ∧ Q (.int z.length) H
  | [.ref p] => ∃ xs, SqA K H p xs ∧ Q (.int xs.length) H
  | _ => False
theorem cLen {K : PySem.W.Frag} (hK : X.K = K := by rfl) : CallR X (.builtin "len") (rLenU K) := by
  subst hK
  refine CallWk call_len ?_
  intro vs H Q h
  unfold rLenU at h
  split at h
  · exact ⟨_, _, rfl, ⟨h.1, rfl⟩, h.2⟩
  · obtain ⟨xs, hq, q⟩ := h
    rcases hq with hq | hq
    · exact ⟨_, _, rfl, .inl ⟨xs, hq, rfl⟩, q⟩
    · exact ⟨_, _, rfl, .inr ⟨xs, hq, rfl⟩, q⟩
  · exact h.elim
def rIntU : List V → Hp → VK → Prop := fun vs H Q => match vs with
  | [.int i] => Q (.int i) H
  | [.bl k] => Q (.int (if k then 1 else 0)) H
  | _ => False
theorem cInt : CallR X (.type "int") rIntU := CallWk call_int1 fun vs H Q h => by
  unfold rIntU at h
  split at h
  · exact .inl ⟨_, rfl, h⟩
  · exact .inr ⟨_, rfl, h⟩
  · exact h.elim
def rAbsU : List V → Hp → VK → Prop := fun vs H Q => match vs with
  | [.int i] => Q (.int (if i < 0 then -i else i)) H
  | _ => False
theorem cAbs : CallR X (.builtin "abs") rAbsU := CallWk call_abs fun vs H Q h => by
  unfold rAbsU at h
  split at h
  · exact ⟨_, rfl, h⟩
  · exact h.elim
def rListU (K : PySem.W.Frag) : List V → Hp → VK → Prop := fun vs H Q => match vs with
  | [.ref p] => ∃ ys, SqA K H p ys ∧ ∀ l, H l = none → Q (.ref l) (upd H l (.lst ys))
  | _ => False
theorem cList {K : PySem.W.Frag} (hK : X.K = K := by rfl) : CallR X (.type "list") (rListU K) := by
  subst hK
  refine CallWk call_list_of ?_
  intro vs H Q h
  unfold rListU at h
  split at h
  · obtain ⟨ys, hq, q⟩ := h
    exact ⟨_, ys, rfl, hq, q⟩
  · exact h.elim
def rTupU (K : PySem.W.Frag) : List V → Hp → VK → Prop := fun vs H Q => match vs with
  | [.ref p] => ∃ ys, SqL K H p ys ∧ ∀ l, H l = none → Q (.ref l) (upd H l (.tup ys))
  | _ => False
theorem cTup {K : PySem.W.Frag} (hK : X.K = K := by rfl) : CallR X (.type "tuple") (rTupU K) := by
  subst hK
  refine CallWk call_tuple_of ?_
  intro vs H Q h
  unfold rTupU at h
  split at h
  · obtain ⟨ys, hq, q⟩ := h
    exact ⟨_, ys, rfl, .inl ⟨hq, q⟩⟩
  · exact h.elim
/-- isinstance(x, T), T a built-in class -/
def rIsiU (K : PySem.W.Frag) : List V → Hp → VK → Prop := fun vs H Q => match vs with
  | [.non, .ty n] => ∃ b, kitB "NoneType" n = some b ∧ Q (.bl b) H
  | [.bl _, .ty n] => ∃ b, kitB "bool" n = some b ∧ Q (.bl b) H
  | [.int _, .ty n] => ∃ b, kitB "int" n = some b ∧ Q (.bl b) H
  | [.str _, .ty n] => ∃ b, kitB "str" n = some b ∧ Q (.bl b) H
  | [.ref p, .ty n] => ∃ T b, TyX K H (.ref p) (.type T) ∧ kitB T n = some b ∧ Q (.bl b) H
  | _ => False
theorem cIsi {K : PySem.W.Frag} (hK : X.K = K := by rfl) : CallR X (.builtin "isinstance") (rIsiU K) := by
  subst hK
  refine CallWk call_isi ?_
  intro vs H Q h
  unfold rIsiU at h
  split at h
  · obtain ⟨b, e, q⟩ := h; exact ⟨_, _, _, _, b, rfl, .ty _, .base .non, kit_ty e, q⟩
  · obtain ⟨b, e, q⟩ := h; exact ⟨_, _, _, _, b, rfl, .ty _, .base (.bl _), kit_ty e, q⟩
  · obtain ⟨b, e, q⟩ := h; exact ⟨_, _, _, _, b, rfl, .ty _, .base (.int _), kit_ty e, q⟩
  · obtain ⟨b, e, q⟩ := h; exact ⟨_, _, _, _, b, rfl, .ty _, .base (.str _), kit_ty e, q⟩
  · obtain ⟨T, b, ty, e, q⟩ := h; exact ⟨_, _, _, _, b, rfl, .ty _, ty, kit_ty e, q⟩
  · exact h.elim
/-! ### tests -/
/-- a bool as a test -/
def mT (t : TE) : TT := fun σ H Q => t σ H fun x H' => match x with
  | .bl b => Q b H'
  | _ => False
theorem isB (Q : Bool → Hp → Prop) : (fun (x : V) (H' : Hp) => match x with | .bl b => Q b H' | _ => False) = (fun x H' => ∃ k, x = .bl k ∧ Q k H') := by
  funext x H'
  cases x with
  | bl b => exact propext ⟨fun h => ⟨b, rfl, h⟩, fun ⟨k, e, h⟩ => by cases e; exact h⟩
  | _ => exact propext ⟨fun h => h.elim, fun ⟨k, e, h⟩ => by cases e⟩
theorem nCmp {a b : Expr} {op : CmpOp} {r : R2} {ta tb : TE} {pos : Pos} (ho : OpR X (compareOp op) r) (ha : PE X a ta) (hb : PE X b tb) (hm : behindInMarks op b = false) : PT X (.Compare a [op] [b] pos) (mT (tOp r ta tb)) :=
  PTwk (pt_cmpR ho ha hb hm) fun σ H Q h => by
    unfold mT at h
    rw [isB] at h
    exact h
theorem nVal {e : Expr} {te : TE} (h : PE X e te) (he : ∀ whole, isTrue e X.env whole = (do let v ← whole; standAt e.pos; holding [v] (truthy v)) := by intro _; rfl) : PT X e (mT te) :=
  PTwk (pt_val h he) fun σ H Q h => by
    unfold mT at h
    rw [isB] at h
    exact h
/-! ### what a for walks -/
def iAnyU (K : PySem.W.Frag) (te : TE) : TI := fun σ H R => te σ H fun v H1 => match v with
  | .str z => R (Its z) H1
  | .ref a => ((∃ xs, SqL K H1 a xs) ∧ R (Itl K a) H1) ∨ ((∃ xs, SqT K H1 a xs) ∧ R (Itt K a) H1)
  | _ => False
theorem PIwk {tg iter : Expr} {w w' : TI} (h : PI X tg iter w) (k : ∀ σ H R, w' σ H R → w σ H R) : PI X tg iter w' := ⟨fun p s σ H R I q => h.run p s σ H R I (k _ _ _ q)⟩
theorem piAny {K : PySem.W.Frag} {tg e : Expr} {te : TE} (he : PE X e te) (hK : X.K = K := by rfl) : PI X tg e (iAnyU K te) := by
  subst hK
  refine ⟨fun pins s σ H R I h => ?_⟩
  -- the value is found first; what walks it follows its kind
  have key : ∀ (v : V) (H1 : Hp) (u : Value) (s1 : Shared), Inv X pins σ H1 s1 → RelV v u → (match v with
      | .str z => R (Its z) H1
      | .ref a => ((∃ xs, SqL X.K H1 a xs) ∧ R (Itl X.K a) H1) ∨ ((∃ xs, SqT X.K H1 a xs) ∧ R (Itt X.K a) H1)
      | _ => False) → wpAny (model X.prog X.w) X.A (pyIter u) (PIE X pins σ tg R) X.xe s1 := by
    intro v H1 u s1 I1 r1 q
    cases v with
    | str x =>
      obtain ⟨t, rfl⟩ := r1
      cases ha : x.cps.all (· < 128)
      · exact wpAny_pyIter_wide ha (pi_one (tk := s1.toks) I1 _ (turn_str _ x t "str_iterator" (.inr rfl)) ⟨_, Heap.get?_push_size _ rfl, rfl, rfl⟩ q)
      · exact wpAny_pyIter_ascii ha (pi_one (tk := s1.toks) I1 _ (turn_str _ x t "str_ascii_iterator" (.inl rfl)) ⟨_, Heap.get?_push_size _ rfl, rfl, rfl⟩ q)
    | ref a =>
      cases r1
      rcases q with ⟨⟨xs, hq⟩, q⟩ | ⟨⟨xs, hq⟩, q⟩
      · obtain ⟨its, rv, pl, hz⟩ := I1.list hq
        exact wpAny_pyIter_list pl.isList (pi_one (tk := s1.toks) I1 _ (turn_list a _) ⟨_, Heap.get?_push_size _ rfl, rfl, rfl⟩ q)
      · obtain ⟨its, rv, pl, hz⟩ := I1.tuple hq
        exact wpAny_pyIter_tuple (show s1.heap.IsTuple a its.toArray from pl) (pi_one (tk := s1.toks) I1 _ (turn_tuple a _) ⟨_, Heap.get?_push_size _ rfl, rfl, rfl⟩ q)
    | _ => exact q.elim
  refine thn (he.run pins s σ H _ I h) fun u s1 ⟨v, H1, I1, r1, q⟩ => key v H1 u s1 I1 r1 q
/-! ### a module's constant -/
theorem nGlobI {x : Str} {i : Int} {pos : Pos} (hm : ∃ t, X.mg x = some (.int i t)) (hg : Gl X x := by rfl) (hd : (x == ("__debug__" : Str)) = false := by decide) : PE X (.Name x pos) (tC (.int i)) := by
  obtain ⟨t, hm⟩ := hm
  exact pe_glob hg hm ⟨t, rfl⟩ hd
theorem nGlobS {x z : Str} {pos : Pos} (hm : ∃ t, X.mg x = some (.str z t)) (hg : Gl X x := by rfl) (hd : (x == ("__debug__" : Str)) = false := by decide) : PE X (.Name x pos) (tC (.str z)) := by
  obtain ⟨t, hm⟩ := hm
  exact pe_glob hg hm ⟨t, rfl⟩ hd
/-- a tuple of the module's top -/
def GTup (K : PySem.W.Frag) (mg : Str → Option Value) (x : Str) (xs : List V) : Prop := ∃ a, mg x = some (.ref a) ∧ ∀ H, SqT K H a xs
def mGT (K : PySem.W.Frag) (xs : List V) : TE := fun _ H Q => ∀ a, (∀ H, SqT K H a xs) → Q (.ref a) H
theorem nGlobT {x : Str} {xs : List V} {pos : Pos} (hm : GTup X.K X.mg x xs) (hg : Gl X x := by rfl) (hd : (x == ("__debug__" : Str)) = false := by decide) : PE X (.Name x pos) (mGT X.K xs) := by
  obtain ⟨a, hm, hs⟩ := hm
  exact PEwk (pe_glob hg hm (v := .ref a) rfl hd) fun σ H Q h => h a hs
/-- a dict of the module's top, its keys texts -/
def GDict (K : PySem.W.Frag) (w : World) (mg : Str → Option Value) (x : Str) (kvs : List (Str × V)) : Prop := ∃ d es n, mg x = some (.ref d) ∧ KDict K w d es n ∧ ∀ z v, kvs.lookup z = some v → ∃ u, PySem.W.nsIn K d z = some (some u) ∧ RelV v u
def mDict (kvs : List (Str × V)) (te : TE) : TE := fun σ H Q => te σ H fun y H1 => match y with
  | .str z => (match kvs.lookup z with
    | some v => Q v H1
    | none => False)
  | _ => False
theorem nDict {x : Str} {kvs : List (Str × V)} {i : Expr} {te : TE} {p pos : Pos} (hm : GDict X.K X.w X.mg x kvs) (hi : PE X i te) (hs : PlainIx i) (hg : Gl X x := by rfl) (hd : (x == ("__debug__" : Str)) = false := by decide) : PE X (.Subscript (.Name x p) i pos) (mDict kvs te) := by
  obtain ⟨d, es, n, hm, D, hv⟩ := hm
  have ix : IxR X (fun x y H Q => ∃ z v, x = .ref d ∧ y = .str z ∧ kvs.lookup z = some v ∧ Q v H) := by
    intro value slice pins s σ H x y v u Q I rx ry h hs
    obtain ⟨z, r, rfl, rfl, e, q⟩ := h
    obtain ⟨u0, e1, e2⟩ := hv z r e
    have g := op_item_kd D pins s σ H _ _ v u Q I rx ry ⟨z, u0, r, rfl, rfl, e1, e2, q⟩
    cases rx
    exact PyProof.Rows.tail_any (kd_type D I) PySem.F.slot_dict_getitem.lookup g hs
  refine PEwk (pe_ix ix (pe_glob hg hm (v := .ref d) rfl hd) hi hs) fun σ H Q h => ?_
  have e : (fun (y : V) (H1 : Hp) => match y with | .str z => (match kvs.lookup z with | some v => Q v H1 | none => False) | _ => False) = (fun y H1 => ∃ z v, V.ref d = .ref d ∧ y = .str z ∧ kvs.lookup z = some v ∧ Q v H1) := by
    funext y H1
    cases y with
    | str z =>
      refine propext ⟨fun h => ?_, fun ⟨z', v, _, e1, e2, q⟩ => ?_⟩
      · cases e : kvs.lookup z with
        | none => simp only [e] at h
        | some v => simp only [e] at h; exact ⟨z, v, rfl, rfl, e, h⟩
      · cases e1
        simp only [e2]
        exact q
    | _ => exact propext ⟨fun h => h.elim, fun ⟨z', v, _, e1, _⟩ => by cases e1⟩
  unfold mDict at h
  rw [e] at h
  exact h
theorem gdict_mk {K : PySem.W.Frag} {w : World} {h : Heap} {mg : Str → Option Value} (X : K.In h) (G : h.Ns mainGlobals mg) {x : Str} {kvs : List (Str × V)} {d : Addr} {es : Array DictEntry} {n : Nat} (z : PySem.W.nsIn K mainGlobals x = some (some (.ref d)))
    (y : K.lookup d = some ⟨.type "dict", none, .dict es n, #[]⟩) (u : PySem.W.KeysLit w.params es.toList) (v : (d == sysModules) = false) (hv : ∀ z v, kvs.lookup z = some v → ∃ u, PySem.W.nsIn K d z = some (some u) ∧ RelV v u) : GDict K w mg x kvs :=
  ⟨d, es, n, PySem.W.mg_of X G z, ⟨y, u, v⟩, hv⟩
theorem lookup_all {K : PySem.W.Frag} {d : Addr} : ∀ {kvs : List (Str × V)}, (∀ q ∈ kvs, ∃ u, PySem.W.nsIn K d q.1 = some (some u) ∧ RelV q.2 u) → ∀ z v, kvs.lookup z = some v → ∃ u, PySem.W.nsIn K d z = some (some u) ∧ RelV v u
  | [], _, z, v, h => by cases h
  | (a, b) :: r, hq, z, v, h => by
    rw [List.lookup_cons] at h
    cases q : (z == a) with
    | true =>
      rw [q] at h
      have e1 : z = a := eq_of_beq q
      have e2 : b = v := Option.some.inj h
      rw [e1, ← e2]
      exact hq _ List.mem_cons_self
    | false =>
      rw [q] at h
      exact lookup_all (fun x hx => hq x (List.mem_cons_of_mem _ hx)) z v h
theorem nTy {x : Str} {T : String} {pos : Pos} (hm : X.mg x = none) (hv : bootBuiltins x = some (.type T)) (hg : Gl X x := by rfl) (hn : x ≠ "__name__" := by decide) (hd : (x == ("__debug__" : Str)) = false := by decide) : PE X (.Name x pos) (tC (.ty T)) := pe_bltn hg hm hv (v := .ty T) rfl hn hd
/-! ### exceptions of own classes over ValueError -/
structure ExcK (K : PySem.W.Frag) (mg : Str → Option Value) (x : Str) : Prop where
  ex : ∃ C, mg x = some (.ref C) ∧ PySem.W.excIn K C [.type "ValueError", .type "Exception", .type "BaseException", .type "object"] "ValueError.__new__" = true ∧ PySem.W.keepIn K (.ref C) = true ∧
    PySem.W.subIn K (.ref C) (.type "BaseException") = some true ∧ PySem.W.typeIn K (.ref C) = some (.type "type")
/-- raise X('..') -/
theorem nMk {K : PySem.W.Frag} {mg : Str → Option Value} {x m : Str} {j : Nat} {p p2 pos : Pos} (h : ExcK K mg x) (hM : X.mg = mg := by rfl) (hK : X.K = K := by rfl) (hg : Gl X x := by rfl) (hdb : (x == ("__debug__" : Str)) = false := by decide) : PMk X (.Call (.Name x p) [.Constant (.str m) j p2] [] pos) (fun _ H Q => ∀ cls, mg x = some cls → Q cls none H) := by
  subst hM
  subst hK
  obtain ⟨C, g, e, kp, sb, ty⟩ := h.ex
  intro pins s σ H Q I q
  exact pmk_own PySem.F.excBase_ValueError e g kp (raises_own sb ty) hg hdb pins s σ H Q I (q _ g)
/-- try: .. except X: .. -/
theorem nTryOnly {x : Str} {body suite : List Stmt} {b₀ : Stmt} {np pos pos' : Pos} {tb : WX → TS} {ts : Addr → Value → Option Addr → TS} {Wout : WX} (hs : X.stack = X.env :: X.outer) (hf : X.env.frame = some X.env.locals) (hx : ExcK X.K X.mg x) (tk : Takes X Wout)
    (hb : ∀ (W : WX) (pn : List (Addr × Obj)) (xe : Value → Shared → Prop), Takes (X.tr pn xe) W → PassesOwn (model X.prog X.w) X.A X.env xe → PSs (X.tr pn xe) body (tb W))
    (hsu : ∀ (a : Addr) (oe : Obj) (cls : Value) (d : Option Addr) (pn : List (Addr × Obj)), Zc cls d oe → (∃ vs, oe.data = .fields vs) → PSs (X.suite a ((a, oe) :: pn)) (b₀ :: suite) (ts a cls d)) (hg : Gl X x := by rfl) (hdb : (x == ("__debug__" : Str)) = false := by decide) :
    PS X (.Try body [.ExceptHandler (some (.Name x np)) none (b₀ :: suite) pos'] [] [] pos) (fun D σ H => ∀ c, X.mg x = some c → tb (wOnly X.K c ts Wout D) D σ H) := by
  obtain ⟨C, g, e, kp, sb, ty⟩ := hx.ex
  refine ⟨fun pins s σ H D I h => ?_⟩
  exact (ps_try_only hs hf ⟨hg, hdb, .inl g⟩ tk hb hsu).run pins s σ H D I (h _ g)
theorem nTryAs {x n : Str} {i : Nat} {body suite : List Stmt} {b₀ : Stmt} {np pos pos' : Pos} {tb : WX → TS} {ts : Addr → Value → Option Addr → TS} {Wout : WX} (hs : X.stack = X.env :: X.outer) (hf : X.env.frame = some X.env.locals) (hN : X.N.Nodup) (hi : X.N[i]? = some n) (hln : X.env.kindOf n = some .local) (hx : ExcK X.K X.mg x) (tk : Takes X Wout)
    (hb : ∀ (W : WX) (pn : List (Addr × Obj)) (xe : Value → Shared → Prop), Takes (X.tr pn xe) W → PassesOwn (model X.prog X.w) X.A X.env xe → PSs (X.tr pn xe) body (tb W))
    (hsu : ∀ (a : Addr) (oe : Obj) (cls : Value) (d : Option Addr) (pn : List (Addr × Obj)), Zc cls d oe → (∃ vs, oe.data = .fields vs) → PSs (X.suite a ((a, oe) :: pn)) (b₀ :: suite) (ts a cls d)) (hg : Gl X x := by rfl) (hdb : (x == ("__debug__" : Str)) = false := by decide) :
    PS X (.Try body [.ExceptHandler (some (.Name x np)) (some n) (b₀ :: suite) pos'] [] [] pos) (fun D σ H => ∀ c, X.mg x = some c → tb (wAs X.K c i ts Wout D) D σ H) := by
  obtain ⟨C, g, e, kp, sb, ty⟩ := hx.ex
  refine ⟨fun pins s σ H D I h => ?_⟩
  exact (ps_try_as hs hf hN hi hln ⟨hg, hdb, .inl g⟩ tk hb hsu).run pins s σ H D I (h _ g)
/-- a class of the top as a value -/
theorem nGlobC {K : PySem.W.Frag} {mg : Str → Option Value} {x : Str} {pos : Pos} (h : ExcK K mg x) (hM : X.mg = mg := by rfl) (hg : Gl X x := by rfl) (hd : (x == ("__debug__" : Str)) = false := by decide) : PE X (.Name x pos) (fun _ H Q => ∀ C, mg x = some (.ref C) → Q (.ref C) H) := by
  subst hM
  obtain ⟨C, g, _⟩ := h.ex
  exact PEwk (pe_glob hg g (v := .ref C) rfl hd) fun σ H Q q => q C g
/-- isinstance of the exception that a suite holds -/
def rIsEU (K : PySem.W.Frag) (a : Addr) (cls : Value) (d : Option Addr) : List V → Hp → VK → Prop := fun xs H Q => ∃ D, cls = .ref D ∧ d = none ∧ L2.ExcC K D ∧ rIsE K D a xs H Q
theorem cIsE {K : PySem.W.Frag} {a : Addr} {cls : Value} {d : Option Addr} {oe : Obj} {pn : List (Addr × Obj)} (hz : Zc cls d oe) (hf : ∃ vs, oe.data = .fields vs) (hK : X.K = K := by rfl) : CallR (X.suite a ((a, oe) :: pn)) (.builtin "isinstance") (rIsEU K a cls d) := by
  subst hK
  intro pins s σ H xs us Q I r h
  obtain ⟨D, rfl, rfl, C, h⟩ := h
  exact call_isE C hz hf pins s σ H xs us Q I r h
def IsX (K : PySem.W.Frag) (mg : Str → Option Value) (x : Str) : Prop := ∃ C, mg x = some (.ref C) ∧ L2.ExcC K C
/-- isinstance(an X, the own class Y) -/
def KitX (K : PySem.W.Frag) (mg : Str → Option Value) (x y : Str) (b : Bool) : Prop := ∀ c1 c2, mg x = some c1 → mg y = some c2 → PySem.W.kitOne K c1 c2 = some b
/-- isinstance(an X, the built-in class T) -/
def KitT (K : PySem.W.Frag) (mg : Str → Option Value) (x : Str) (T : String) (b : Bool) : Prop := ∀ c1, mg x = some c1 → PySem.W.kitOne K c1 (.type T) = some b
theorem kitx_mk {K : PySem.W.Frag} {h : Heap} {mg : Str → Option Value} (X : K.In h) (G : h.Ns mainGlobals mg) {x y : Str} {b : Bool} {C S : Addr} (a1 : PySem.W.nsIn K mainGlobals x = some (some (.ref C))) (a2 : PySem.W.nsIn K mainGlobals y = some (some (.ref S)))
    (h2 : PySem.W.isClsIn K S = true) (h3 : PySem.W.typeIn K (.ref S) = some (.type "type")) (h4 : PySem.W.subIn K (.ref C) (.ref S) = some b) (h5 : x = y → b = true) (h6 : C = S → x = y) : KitX K mg x y b := by
  intro c1 c2 e1 e2
  rw [PySem.W.mg_of X G a1] at e1
  rw [PySem.W.mg_of X G a2] at e2
  cases e1
  cases e2
  have q2 : ((PySem.W.clsIn K S).isSome && PySem.W.typeIn K (.ref S) == some (.type "type")) = true := by
    have z : (PySem.W.clsIn K S).isSome = true := h2
    rw [z, h3]; rfl
  show (if (Value.ref C == Value.ref S) = true then some true else if ((PySem.W.clsIn K S).isSome && PySem.W.typeIn K (.ref S) == some (.type "type")) = true then PySem.W.subIn K (.ref C) (.ref S) else none) = some b
  by_cases q : (Value.ref C == Value.ref S) = true
  · rw [if_pos q]
    have : C = S := by
      have := eq_of_beq q
      injection this
    rw [h5 (h6 this)]
  · rw [if_neg q, if_pos q2]
    exact h4
theorem kitt_mk {K : PySem.W.Frag} {h : Heap} {mg : Str → Option Value} (X : K.In h) (G : h.Ns mainGlobals mg) {x : Str} {T : String} {b : Bool} {C : Addr} (a1 : PySem.W.nsIn K mainGlobals x = some (some (.ref C))) (hT : PySem.W.kitMeta T = true)
    (h4 : PySem.W.subIn K (.ref C) (.type T) = some b) : KitT K mg x T b := by
  intro c1 e1
  rw [PySem.W.mg_of X G a1] at e1
  cases e1
  show (if (Value.ref C == Value.type T) = true then some true else if PySem.W.kitMeta T = true then PySem.W.subIn K (.ref C) (.type T) else none) = some b
  rw [if_neg (by intro q; cases q), if_pos hT]
  exact h4
/-- what an except clause of Y says of an exception of the class X -/
def ExM (K : PySem.W.Frag) (mg : Str → Option Value) (x y : Str) (b : Bool) : Prop := ∀ c1 c2, mg x = some c1 → mg y = some c2 → PySem.W.exmOne K c1 c2 = some b
theorem exm_mk {K : PySem.W.Frag} {h : Heap} {mg : Str → Option Value} (X : K.In h) (G : h.Ns mainGlobals mg) {x y : Str} {b : Bool} {C S : Addr} (a1 : PySem.W.nsIn K mainGlobals x = some (some (.ref C))) (a2 : PySem.W.nsIn K mainGlobals y = some (some (.ref S)))
    (h1 : PySem.W.subIn K (.ref S) (.type "BaseException") = some true) (h2 : PySem.W.isClsIn K S = true) (h3 : PySem.W.typeIn K (.ref S) = some (.type "type")) (h4 : PySem.W.subIn K (.ref C) (.ref S) = some b) : ExM K mg x y b := by
  intro c1 c2 e1 e2
  have f1 := PySem.W.mg_of X G a1
  have f2 := PySem.W.mg_of X G a2
  rw [f1] at e1
  rw [f2] at e2
  cases e1
  cases e2
  have q1 : (PySem.W.subIn K (.ref S) (.type "BaseException") == some true) = true := by rw [h1]; rfl
  have q2 : ((PySem.W.clsIn K S).isSome && PySem.W.typeIn K (.ref S) == some (.type "type")) = true := by
    have z : (PySem.W.clsIn K S).isSome = true := h2
    rw [z, h3]; rfl
  show (if (PySem.W.subIn K (.ref S) (.type "BaseException") == some true) = true then (if ((PySem.W.clsIn K S).isSome && PySem.W.typeIn K (.ref S) == some (.type "type")) = true then PySem.W.subIn K (.ref C) (.ref S) else none) else none) = some b
  rw [if_pos q1, if_pos q2]
  exact h4
/-! ### a def that is called -/
end
/-- a def of the top that keeps a promise -/
def Cal (P : Program) (w : World) (K : PySem.W.Frag) (mg : Str → Option Value) (base : Heap) (CX : CXT) (k : Nat) (x : Str) (ps : List Str) (sp : Sp) : Prop :=
  ∃ f fd, mg x = some (.ref f) ∧ PySem.W.keepIn K (.ref f) = true ∧ Binds K fd ps [] ∧ FnOk P w K mg base CX k f fd ps sp
/-- a def of the text, as the top has left it -/
def Fn (K : PySem.W.Frag) (mg : Str → Option Value) (g x : Str) (st : Stmt) (ps : List Str) : Prop :=
  ∃ f fd, mg g = some (.ref f) ∧ Fun K x x st f fd ∧ Binds K fd ps []
section
variable {P : Program} {w : World} {K : PySem.W.Frag} {mg : Str → Option Value} {base : Heap}
theorem Fn.ok {g x : Str} {st : Stmt} {N ps : List Str} {k : Nat} {sp : Sp} (F : Fn K mg g x st ps) (S : FnScope N ps (defScope st)) (len : ∀ vs H Q E, sp vs H Q E → vs.length = ps.length)
    (hbody : ∀ (f : Addr) (cdv : Value) (A : Around) (outer : List Env) (s : Shared) (H : Hp) (vs : List V) (Q : VK) (E : XK), Room k (A.deeper (envOfC x (defScope st) s.heap.objs.size f cdv)) → sp vs H Q E →
      ∃ t, PSs (cxOf CX0 P w K mg base N x (defScope st) f cdv A outer s H E).nox (defBody st) t ∧ t { nx := fun _ H' => Q .non H', rt := Q } (start N vs) H) : Cal P w K mg base CX0 (k + 1) g ps sp := by
  obtain ⟨f, fd, hm, F, b⟩ := F
  exact ⟨f, fd, hm, F.kp, b, F.ok S len fun cdv A outer s H vs Q E hr h => hbody f cdv A outer s H vs Q E hr h⟩
theorem Fn.okX {g x : Str} {st : Stmt} {N ps : List Str} {k : Nat} {sp : Sp} (F : Fn K mg g x st ps) (S : FnScope N ps (defScope st)) (len : ∀ vs H Q E, sp vs H Q E → vs.length = ps.length)
    (hbody : ∀ (f : Addr) (cdv : Value) (A : Around) (outer : List Env) (s : Shared) (H : Hp) (vs : List V) (Q : VK) (E : XK), Room k (A.deeper (envOfC x (defScope st) s.heap.objs.size f cdv)) → sp vs H Q E →
      ∃ t, PSs (cxOf (L2.CX P w) P w K mg base N x (defScope st) f cdv A outer s H E) (defBody st) t ∧ t { nx := fun _ H' => Q .non H', rt := Q } (start N vs) H) : Cal P w K mg base (L2.CX P w) (k + 1) g ps sp := by
  obtain ⟨f, fd, hm, F, b⟩ := F
  exact ⟨f, fd, hm, F.kp, b, F.okX S len fun cdv A outer s H vs Q E hr h => hbody f cdv A outer s H vs Q E hr h⟩
theorem fn_mk {h : Heap} (X : K.In h) (G : h.Ns mainGlobals mg) {g x : Str} {st : Stmt} {ps : List Str} {f : Addr} {oc : Value} {od an : Option Addr} {osl : Array (Option Value)} {kV doc pm cdv ct : Value} (a : PySem.W.nsIn K mainGlobals g = some (some (.ref f)))
    (l : K.lookup f = some ⟨oc, od, .func (PySem.W.fnOf x x (defArgs st) (defBody st) (defScope st) .none kV doc pm an cdv ct), osl⟩) (c : PySem.W.codeIn K cdv x = true) (k : PySem.W.keepIn K (.ref f) = true)
    (b : ∀ (kV doc pm : Value) (an : Option Addr) (cdv ct : Value) (us : List Value), us.length = ps.length → bindArgs (PySem.W.fnOf x x (defArgs st) (defBody st) (defScope st) .none kV doc pm an cdv ct) ⟨us, []⟩ = pure (ps.zip us)) : Fn K mg g x st ps :=
  ⟨f, _, PySem.W.mg_of X G a, L2.fun_mk l c k, (L2.fun_mk l c k).binds b⟩
theorem Cal.imp {CX : CXT} {k : Nat} {x : Str} {ps : List Str} {sp sp' : Sp} (C : Cal P w K mg base CX k x ps sp) (h : ∀ vs H Q E, sp' vs H Q E → sp vs H Q E) : Cal P w K mg base CX k x ps sp' := by
  obtain ⟨f, fd, hm, kp, b, F⟩ := C
  exact ⟨f, fd, hm, kp, b, F.imp h⟩
theorem Cal.mono {CX : CXT} {j k : Nat} {x : Str} {ps : List Str} {sp : Sp} (C : Cal P w K mg base CX j x ps sp) (h : j ≤ k) : Cal P w K mg base CX k x ps sp := by
  obtain ⟨f, fd, hm, kp, b, F⟩ := C
  exact ⟨f, fd, hm, kp, b, F.mono h⟩
end
section
variable {X : Cx} {CX : CXT} {k : Nat} {ps : List Str} {sp : Sp} {E : XK} {x : Str} {p pos : Pos} {e : Expr} {es : List Expr} {t : TA}
/-- f(..) -/
def mCall (sp : Sp) (E : XK) (t : TA) : TE := fun σ H Q => t σ H fun vs H1 => sp vs H1 Q E
theorem nCall (C : Cal X.prog X.w X.K X.mg X.base CX k x ps sp) (hr : Room k X.A) (hx : Passes CX X E) (ha : PA X (e :: es) t) (hg : Gl X x := by rfl) (hdb : (x == ("__debug__" : Str)) = false := by decide)
    (he : starEach (e :: es) X.env = (false, eval e X.env) :: starEach es X.env := by rfl) (hpl : (backTo pos (starEach es X.env)).any (·.1) = false := by rfl) : PE X (.Call (.Name x p) (e :: es) [] pos) (mCall sp E t) := by
  obtain ⟨f, fd, hm, kp, b, F⟩ := C
  refine ⟨fun pins s σ H Q I h => ?_⟩
  refine (pe_call F hr hg hm kp b .nil hx ha hdb he hpl).run pins s σ H Q I ?_
  have e : (fun vs H1 => sp (vs ++ []) H1 Q E) = fun vs H1 => sp vs H1 Q E := by
    funext vs H1
    rw [List.append_nil]
  show t σ H fun vs H1 => sp (vs ++ []) H1 Q E
  rw [e]
  exact h
/-- f(..), what is raised told at the slots -/
def mCallS (sp : Sp) (E : L2.St → XK) (t : TA) : TE := fun σ H Q => t σ H fun vs H1 => sp vs H1 Q (E σ)
theorem nCallS {E : L2.St → XK} (C : Cal X.prog X.w X.K X.mg X.base CX k x ps sp) (hr : Room k X.A) (hx : ∀ σ, PassesAt CX X σ (E σ)) (ha : PA X (e :: es) t) (hg : Gl X x := by rfl) (hdb : (x == ("__debug__" : Str)) = false := by decide)
    (he : starEach (e :: es) X.env = (false, eval e X.env) :: starEach es X.env := by rfl) (hpl : (backTo pos (starEach es X.env)).any (·.1) = false := by rfl) : PE X (.Call (.Name x p) (e :: es) [] pos) (mCallS sp E t) := by
  obtain ⟨f, fd, hm, kp, b, F⟩ := C
  exact pe_callS F hr hg hm kp b hx ha hdb he hpl
theorem nCall0 (C : Cal X.prog X.w X.K X.mg X.base CX k x ps sp) (hr : Room k X.A) (hx : Passes CX X E) (hg : Gl X x := by rfl) (hdb : (x == ("__debug__" : Str)) = false := by decide) : PE X (.Call (.Name x p) [] [] pos) (fun _ H Q => sp [] H Q E) := by
  obtain ⟨f, fd, hm, kp, b, F⟩ := C
  refine ⟨fun pins s σ H Q I h => ?_⟩
  exact (pe_call0 F hr hg hm kp b .nil hx hdb).run pins s σ H Q I h
end
end NV

set_option Elab.async false
set_option linter.all false
set_option maxRecDepth 100000
set_option maxHeartbeats 4000000
/-! # the law's stream: a list of four, told by what is true of its one object -/
namespace NV
open PySem PySem.Spec PyProof.Rows L2
def Strm (p q : Addr) (h : Heap) : Prop := ∃ (a b c : Int) (t1 t2 t3 : Tok) (n : Nat), h.get? p = some { cls := .type "list", data := .seq #[.ref q, .int a t1, .int b t2, .int c t3] n } ∧ 0 ≤ b
/-- a stream to draw from stands at p -/
def StrmAt (H : Hp) (p : Addr) : Prop := ∃ (q : Addr) (ns : List Int), H p = some (.ext (Strm p q)) ∧ H q = some (.lst (ns.map V.int))
theorem StrmAt.mono {H H' : Hp} {p : Addr} (e : Evl.Ex H H') (h : StrmAt H p) : StrmAt H' p := by
  obtain ⟨q, ns, h1, h2⟩ := h
  exact ⟨q, ns, e _ _ h1, e _ _ h2⟩
section
variable {P : Program} {w : World} {K : PySem.W.Frag} {mg : Str → Option Value} {base : Heap}
theorem strm_of {H : Hp} {h : Heap} {p q : Addr} {a b c : Int} (x : ObjOk P w H h p (.lst [.ref q, .int a, .int b, .int c])) (hb : 0 ≤ b) : Strm p q h := by
  obtain ⟨_, its, n, r, e⟩ := x
  cases r with
  | cons r0 r => cases r with
    | cons r1 r => cases r with
      | cons r2 r => cases r with
        | cons r3 r =>
          cases r
          cases r0
          obtain ⟨t1, rfl⟩ := r1
          obtain ⟨t2, rfl⟩ := r2
          obtain ⟨t3, rfl⟩ := r3
          exact ⟨a, b, c, t1, t2, t3, n, e, hb⟩
theorem strm_ext {H : Hp} {h : Heap} {p q : Addr} (x : Strm p q h) : ObjOk P w H h p (.ext (Strm p q)) := by
  refine ⟨x, ?_, fun h1 h2 y k => ?_⟩
  · obtain ⟨a, b, c, t1, t2, t3, n, e, _⟩ := x
    exact ⟨_, e⟩
  · obtain ⟨a, b, c, t1, t2, t3, n, e, hb⟩ := y
    exact ⟨a, b, c, t1, t2, t3, n, k _ e, hb⟩
/-- what stands at p is told otherwise: neither telling is one that others lean on -/
theorem hok_tell {H : Hp} {h : Heap} {p : Addr} {o : HO} (ok : HOk P w H h) (no : ∀ y, H p ≠ some (.own y)) (nt : ∀ xs, H p ≠ some (.tup xs)) (new : ObjOk P w (upd H p o) h p o) : HOk P w (upd H p o) h := fun b u e => by
  by_cases hb : b = p
  · subst hb
    rw [upd_same] at e
    cases e
    exact new
  · rw [upd_ne hb] at e
    exact (ok b u e).stay (fun c v _ q => q) (fun c q => by rw [upd_ne (fun z => by rw [z] at q; exact no _ q)]; exact q) (fun c xs q => by rw [upd_ne (fun z => by rw [z] at q; exact nt _ q)]; exact q)
/-- a def that hands back, beside what it promises, a list of four: it stands as a stream from there on -/
theorem Cal.seal {k : Nat} {x : Str} {ps : List Str} {sp sp' : Sp} (C : Cal P w K mg base CX0 k x ps sp)
    (h : ∀ vs H Q E, sp' vs H Q E → sp vs H (fun v H' => ∃ (p q : Addr) (a b c : Int), H' p = some (.lst [.ref q, .int a, .int b, .int c]) ∧ 0 ≤ b ∧ Q v (upd H' p (.ext (Strm p q)))) E) : Cal P w K mg base CX0 k x ps sp' := by
  obtain ⟨f, fd, hm, kp, bd, F⟩ := C
  refine ⟨f, fd, hm, kp, bd, fun vs H Q E q => F.len _ _ _ _ (h _ _ _ _ q), fun A outer s H args us vs Q E hr he hb hv hs => codeAny_mono (F.run A outer s H args us vs _ E hr he hb hv (h _ _ _ _ hs)) fun r s' hq => ?_⟩
  cases r with
  | error e => exact hq
  | ok fl =>
    cases fl with
    | ret u =>
      obtain ⟨v, H', os, bare, un, hok, rv, p, q, a, b, c, hp, hb0, qq⟩ := hq
      have neS : ∀ d, H' d = none → d ≠ p := fun d e z => by rw [z, hp] at e; cases e
      refine ⟨v, upd H' p (.ext (Strm p q)), os, bare, ⟨un.keep, un.slot, fun d o e n hx => ?_, un.there, fun d xs e => ?_, fun d o y e => ?_, fun d tb e => ?_⟩, ?_, rv, qq⟩
      · have n' := un.free d o e n hx
        rw [upd_ne (neS d n')]
        exact n'
      · have z := un.tups d xs e
        rw [upd_ne (fun y => by rw [y, hp] at z; cases z)]
        exact z
      · have z := un.frzs d o y e
        rw [upd_ne (fun y => by rw [y, hp] at z; cases z)]
        exact z
      · obtain ⟨m, z⟩ := un.tbls d tb e
        exact ⟨m, by rw [upd_ne (fun y => by rw [y, hp] at z; cases z)]; exact z⟩
      · exact hok_tell hok (fun y e => by rw [hp] at e; cases e) (fun y e => by rw [hp] at e; cases e) (strm_ext (strm_of (hok p _ hp) hb0))
    | next => exact hq
    | brk => exact hq
    | cont => exact hq
/-- a def that draws from a stream: the list of four is seen within it alone -/
theorem Cal.unseal {k : Nat} {x : Str} {ps : List Str} {sp sp' : Sp} (C : Cal P w K mg base CX0 k x ps sp)
    (hl : ∀ vs H Q E, sp' vs H Q E → vs.length = ps.length)
    (h : ∀ vs H Q E, sp' vs H Q E → ∃ p, (StrmAt H p) ∧ ∀ (q : Addr) (ns : List Int) (a b c : Int), H p = some (.ext (Strm p q)) → H q = some (.lst (ns.map V.int)) → 0 ≤ b →
      sp vs (upd H p (.lst [.ref q, .int a, .int b, .int c])) (fun v H' => Q v H ∧ ∃ (a' b' c' : Int), 0 ≤ b' ∧ H' = upd (upd H p (.lst [.ref q, .int a, .int b, .int c])) p (.lst [.ref q, .int a', .int b', .int c'])) E) : Cal P w K mg base CX0 k x ps sp' := by
  obtain ⟨f, fd, hm, kp, bd, F⟩ := C
  refine ⟨f, fd, hm, kp, bd, hl, fun A outer s H args us vs Q E hr he hb hv hs => ?_⟩
  obtain ⟨p, ⟨q, ns, hp, hq⟩, hs⟩ := h _ _ _ _ hs
  obtain ⟨⟨a, b, c, t1, t2, t3, n, hg, hb0⟩, _, _⟩ := he.hok p _ hp
  have hs := hs q ns a b c hp hq hb0
  have neS : ∀ d, H d = none → d ≠ p := fun d e z => by rw [z, hp] at e; cases e
  have he1 : Env0 P w K mg base A outer s (upd H p (.lst [.ref q, .int a, .int b, .int c])) := by
    refine ⟨he.frames, he.mod, fun d o e => ?_, he.bsz, he.funs, fun d hd => ?_, ?_, he.bare⟩
    · obtain ⟨e1, e2⟩ := he.bs d o e
      exact ⟨e1, by rw [upd_ne (neS d e2)]; exact e2⟩
    · have e2 := he.frf d hd
      rw [upd_ne (neS d e2)]
      exact e2
    · exact hok_tell he.hok (fun y e => by rw [hp] at e; cases e) (fun y e => by rw [hp] at e; cases e)
        ⟨by show 4 ≤ sizeLine; decide, _, n, .cons rfl (.cons ⟨t1, rfl⟩ (.cons ⟨t2, rfl⟩ (.cons ⟨t3, rfl⟩ .nil))), hg⟩
  refine codeAny_mono (F.run A outer s _ args us vs _ E hr he1 hb hv hs) fun r s' hq2 => ?_
  cases r with
  | error e => exact hq2
  | ok fl =>
    cases fl with
    | ret u =>
      obtain ⟨v, H', os, bare, un, hok, rv, qq, a', b', c', hb1, rfl⟩ := hq2
      rw [upd_upd] at hok un
      refine ⟨v, H, os, bare, ⟨fun d o e n => un.keep d o e (by rw [upd_ne (neS d n)]; exact n), fun d o e n => un.slot d o e (by rw [upd_ne (neS d n)]; exact n), fun d o e n hx => n, un.there, fun d xs e => e, fun d o y e => e, fun d tb e => ⟨#[], by rw [e]; simp⟩⟩, ?_, rv, qq⟩
      have x := hok p _ upd_same
      have y := hok_tell (o := .ext (Strm p q)) hok (fun y e => by rw [upd_same] at e; cases e) (fun y e => by rw [upd_same] at e; cases e) (strm_ext (strm_of x hb1))
      rw [upd_upd] at y
      have z : upd H p (.ext (Strm p q)) = H := by
        funext d
        unfold upd
        by_cases hd : d = p
        · rw [if_pos hd, hd, hp]
        · rw [if_neg hd]
      rw [z] at y
      exact y
    | next => exact hq2
    | brk => exact hq2
    | cont => exact hq2
end
end NV

set_option Elab.async false
set_option linter.all false
set_option maxRecDepth 100000
set_option maxHeartbeats 4000000
/-! # texts and trees -/
namespace NV
open PySem PySem.Spec PyProof.Rows L2
open Evl (Ex)
/-- a text by its signs -/
abbrev S (l : List Nat) : Str := ⟨l.toArray⟩
theorem S_append (a b : List Nat) : S a ++ S b = S (a ++ b) := by
  show (⟨a.toArray ++ b.toArray⟩ : Str) = ⟨(a ++ b).toArray⟩
  rw [List.append_toArray]
theorem S_len (a : List Nat) : (S a).length = a.length := rfl
theorem S_add_len (x y : Str) : (x ++ y).length = x.length + y.length := by
  obtain ⟨x, rfl⟩ : ∃ l, x = S l := ⟨x.cps.toList, rfl⟩
  obtain ⟨y, rfl⟩ : ∃ l, y = S l := ⟨y.cps.toList, rfl⟩
  rw [S_append, S_len, List.length_append]
  rfl
theorem cut_len (z : Str) (lo hi : Option Int) : (cutS z lo hi).length ≤ z.length := by
  obtain ⟨l, rfl⟩ : ∃ l, z = S l := ⟨z.cps.toList, rfl⟩
  show (List.take _ (List.drop _ l)).length ≤ l.length
  rw [List.length_take, List.length_drop]
  omega
theorem S_inj {a b : List Nat} (h : S a = S b) : a = b := by
  have := congrArg (fun s : Str => s.cps.toList) h
  exact this
theorem S_cut (a : List Nat) (lo hi : Option Int) : cutS (S a) lo hi = S ((a.drop (HT.sIx a.length 0 lo)).take (HT.sIx a.length a.length hi - HT.sIx a.length 0 lo)) := rfl
theorem S_rep (a : List Nat) (n : Nat) : repS (S a) n = S (List.replicate n a).flatten := rfl
theorem S_of (s : Str) : ∃ l, s = S l := ⟨s.cps.toList, rfl⟩
/-- a stand-alone fact of new objects -/
theorem ne_new {H : Hp} {a b : Addr} {o : HO} (h : H a = some o) (h' : H b = none) : b ≠ a := (ne_of_none h h').symm
theorem okB {p : Prop} [Decidable p] {Q : VK} {H : Hp} (h : p) (k : Q (.bl true) H) : Q (.bl (decide p)) H := by
  rw [decide_eq_true h]
  exact k
theorem iteB {b : Bool} {A B : Prop} (h1 : b = true → A) (h2 : b = false → B) : if b = true then A else B := by
  cases b with
  | true => exact h1 rfl
  | false => exact h2 rfl
theorem iteD {p : Prop} [Decidable p] {A B : Prop} (h1 : p → A) (h2 : ¬ p → B) : if decide p = true then A else B := by
  by_cases h : p
  · rw [decide_eq_true h]; exact h1 h
  · rw [decide_eq_false h]; exact h2 h
theorem iteN {p : Prop} [Decidable p] {A B : Prop} (h1 : ¬ p → A) (h2 : p → B) : if (!decide p) = true then A else B := by
  by_cases h : p
  · rw [decide_eq_true h]; exact h2 h
  · rw [decide_eq_false h]; exact h1 h
theorem iteI {i j : Int} {A B : Prop} (h1 : i = j → A) (h2 : ¬ i = j → B) : if decide (V.int i = V.int j) = true then A else B :=
  iteD (fun h => h1 (V.int.inj h)) (fun h => h2 fun e => h (by rw [e]))
theorem iteNI {i j : Int} {A B : Prop} (h1 : ¬ i = j → A) (h2 : i = j → B) : if (!decide (V.int i = V.int j)) = true then A else B :=
  iteN (fun h => h1 fun e => h (by rw [e])) (fun h => h2 (V.int.inj h))
theorem iteS {i j : Str} {A B : Prop} (h1 : i = j → A) (h2 : ¬ i = j → B) : if decide (V.str i = V.str j) = true then A else B :=
  iteD (fun h => h1 (V.str.inj h)) (fun h => h2 fun e => h (by rw [e]))
theorem upd_self {H : Hp} {p : Addr} {o : HO} (h : H p = some o) : upd H p o = H := by
  funext d
  unfold upd
  by_cases hd : d = p
  · rw [if_pos hd, hd, h]
  · rw [if_neg hd]
theorem atI_at {α : Type} {xs : List α} {i : Int} (h0 : 0 ≤ i) (h1 : i < xs.length) : ∃ h : i.toNat < xs.length, atI xs i = some xs[i.toNat] := by
  have h : i.toNat < xs.length := by omega
  refine ⟨h, ?_⟩
  have := atI_nat (xs := xs) (j := i.toNat) (List.getElem?_eq_getElem h)
  rw [Int.toNat_of_nonneg h0] at this
  exact this
theorem atI_int {ns : List Int} {i : Int} (h0 : 0 ≤ i) (h1 : i < (ns.map V.int).length) : ∃ z, atI (ns.map V.int) i = some (.int z) := by
  obtain ⟨h, e⟩ := atI_at (xs := ns.map V.int) h0 h1
  rw [List.getElem_map] at e
  exact ⟨_, e⟩
theorem pickI {xs : List V} {f : V → Bool} (h : xs.all f = true) {i : Int} (h0 : 0 ≤ i) (h1 : i < xs.length) : ∃ v, atI xs i = some v ∧ f v = true := by
  obtain ⟨hi, e⟩ := atI_at h0 h1
  exact ⟨_, e, List.all_eq_true.mp h _ (List.getElem_mem hi)⟩
theorem pick_ix {K : PySem.W.Frag} {H : Hp} {p : Addr} {xs : List V} {f : V → Bool} {i : Int} {Q : V → Prop} (hq : SqA K H p xs) (h : xs.all f = true) (h0 : 0 ≤ i) (h1 : i < xs.length) (k : ∀ v, f v = true → Q v) : ∃ xs v, SqA K H p xs ∧ atI xs i = some v ∧ Q v := by
  obtain ⟨v, e, hv⟩ := pickI h h0 h1
  exact ⟨xs, v, hq, e, k v hv⟩
theorem str_ix {z : Str} {n : Nat} {i : Int} {Q : Nat → Prop} (hn : z.cps.toList.length = n) (hz : n ≤ 100000) (h0 : 0 ≤ i) (h1 : i < n) (k : ∀ c, z.cps.toList[i.toNat]? = some c → Q c) : z.length ≤ sizeLine ∧ ∃ c, atI z.cps.toList i = some c ∧ Q c := by
  have hl : z.length = n := hn
  have hs : sizeLine = 16777216 := sizeLine_eq
  obtain ⟨hi, e⟩ := atI_at (xs := z.cps.toList) h0 (by rw [hn]; exact h1)
  exact ⟨by omega, _, e, k _ (List.getElem?_eq_getElem hi)⟩
theorem mem_ix {K : PySem.W.Frag} {H : Hp} {p : Addr} {xs : List V} {i : Int} {P Q : V → Prop} (hq : SqA K H p xs) (h0 : 0 ≤ i) (h1 : i < xs.length) (hP : ∀ v ∈ xs, P v) (k : ∀ v, P v → Q v) : ∃ xs v, SqA K H p xs ∧ atI xs i = some v ∧ Q v := by
  obtain ⟨hi, e⟩ := atI_at h0 h1
  exact ⟨xs, _, hq, e, k _ (hP _ (List.getElem_mem hi))⟩
theorem mem_of_get {α : Type} {xs : List α} {i : Nat} {x : α} (h : xs[i]? = some x) : x ∈ xs := by
  obtain ⟨hi, e⟩ := List.getElem?_eq_some_iff.mp h
  rw [← e]
  exact List.getElem_mem hi
theorem map_get {α β : Type} {f : α → β} {xs : List α} {i : Nat} {y : β} (h : (xs.map f)[i]? = some y) : ∃ x, xs[i]? = some x ∧ y = f x := by
  rw [List.getElem?_map] at h
  cases e : xs[i]? with
  | none => rw [e] at h; cases h
  | some u => rw [e] at h; exact ⟨u, rfl, (Option.some.inj h).symm⟩
/-! ### signs, trees -/
inductive Tr where
  | l
  | n (a b : Tr)
  deriving DecidableEq
def Tr.enc : Tr → List Nat
  | .l => [48]
  | .n a b => 49 :: (a.enc ++ b.enc)
def Tr.pairs : Tr → Nat
  | .l => 0
  | .n a b => a.pairs + b.pairs + 1
theorem Tr.enc_len : ∀ t : Tr, t.enc.length = 2 * t.pairs + 1
  | .l => rfl
  | .n a b => by
    have h1 := a.enc_len
    have h2 := b.enc_len
    simp only [Tr.enc, Tr.pairs, List.length_cons, List.length_append]
    omega
theorem Tr.enc_ne (t : Tr) : t.enc ≠ [] := by cases t <;> simp [Tr.enc]
theorem S_app1 (a : List Nat) : S a ++ ("1" : Str) = S (a ++ [49]) := S_append a [49]
theorem S_app0 (a : List Nat) : S a ++ ("0" : Str) = S (a ++ [48]) := S_append a [48]
/-- m trees are missing; how many behind these signs -/
def scan : Nat → List Nat → Option Nat
  | m, [] => some m
  | 0, _ :: _ => none
  | m + 1, c :: cs => if c = 49 then scan (m + 2) cs else if c = 48 then scan m cs else none
theorem scan_nil (m : Nat) : scan m [] = some m := by cases m <;> rfl
theorem scan_zero (c : Nat) (cs : List Nat) : scan 0 (c :: cs) = none := rfl
theorem scan_one (m : Nat) (cs : List Nat) : scan (m + 1) (49 :: cs) = scan (m + 2) cs := rfl
theorem scan_leaf (m : Nat) (cs : List Nat) : scan (m + 1) (48 :: cs) = scan m cs := rfl
theorem scan_other (m : Nat) {c : Nat} (cs : List Nat) (h1 : c ≠ 49) (h0 : c ≠ 48) : scan (m + 1) (c :: cs) = none := by
  show (if c = 49 then _ else if c = 48 then _ else none) = _
  rw [if_neg h1, if_neg h0]
theorem scan_append : ∀ (a b : List Nat) (m : Nat), scan m (a ++ b) = (scan m a).bind fun k => scan k b
  | [], b, m => by rw [List.nil_append, scan_nil]; rfl
  | c :: a, b, 0 => rfl
  | c :: a, b, m + 1 => by
    show (if c = 49 then scan (m + 2) (a ++ b) else if c = 48 then scan m (a ++ b) else none) = (if c = 49 then scan (m + 2) a else if c = 48 then scan m a else none).bind _
    by_cases h1 : c = 49
    · rw [if_pos h1, if_pos h1]; exact scan_append a b (m + 2)
    · rw [if_neg h1, if_neg h1]
      by_cases h0 : c = 48
      · rw [if_pos h0, if_pos h0]; exact scan_append a b m
      · rw [if_neg h0, if_neg h0]; rfl
theorem scan_enc : ∀ (t : Tr) (m : Nat) (r : List Nat), scan (m + 1) (t.enc ++ r) = scan m r
  | .l, m, r => rfl
  | .n a b, m, r => by
    show scan (m + 2) (a.enc ++ b.enc ++ r) = _
    rw [List.append_assoc, scan_enc a (m + 1), scan_enc b m]
theorem scan_enc1 (t : Tr) : scan 1 t.enc = some 0 := by
  have := scan_enc t 0 []
  rw [List.append_nil] at this
  rw [this]
  rfl
/-- what is read to its end is so many trees -/
theorem scan_trees : ∀ (s : List Nat) (m : Nat), scan m s = some 0 → ∃ ts : List Tr, ts.length = m ∧ s = (ts.map Tr.enc).flatten
  | [], m, h => by
    rw [scan_nil] at h
    cases h
    exact ⟨[], rfl, rfl⟩
  | c :: cs, 0, h => by cases h
  | c :: cs, m + 1, h => by
    have h' : (if c = 49 then scan (m + 2) cs else if c = 48 then scan m cs else none) = some 0 := h
    by_cases h1 : c = 49
    · rw [if_pos h1] at h'
      obtain ⟨ts, hl, e⟩ := scan_trees cs (m + 2) h'
      match ts, hl, e with
      | a :: b :: r, hl, e =>
        refine ⟨.n a b :: r, by simpa using hl, ?_⟩
        rw [e, h1]
        simp [Tr.enc, List.append_assoc]
    · rw [if_neg h1] at h'
      by_cases h0 : c = 48
      · rw [if_pos h0] at h'
        obtain ⟨ts, hl, e⟩ := scan_trees cs m h'
        refine ⟨.l :: ts, by simpa using hl, ?_⟩
        rw [e, h0]
        rfl
      · rw [if_neg h0] at h'
        cases h'
theorem scan_tree {s : List Nat} (h : scan 1 s = some 0) : ∃ t : Tr, s = t.enc := by
  obtain ⟨ts, hl, e⟩ := scan_trees s 1 h
  match ts, hl, e with
  | [t], _, e => exact ⟨t, by rw [e]; simp⟩
/-- a tree of at most 200,000 signs -/
def isTr (s : List Nat) : Bool := decide (s.length ≤ 200000) && decide (scan 1 s = some 0)
/-- what is_tree answers of a value -/
inductive TrAns (K : PySem.W.Frag) (H : Hp) : V → Bool → Prop
  | str {l : List Nat} (h : l.length ≤ 10000000) : TrAns K H (.str (S l)) (isTr l)
  | lst {a : Addr} (h : TyX K H (.ref a) (.type "list")) : TrAns K H (.ref a) false
  | tup {a : Addr} (h : TyX K H (.ref a) (.type "tuple")) : TrAns K H (.ref a) false
  | non : TrAns K H .non false
  | int (i : Int) : TrAns K H (.int i) false
  | bl (b : Bool) : TrAns K H (.bl b) false
theorem isTr_enc {t : Tr} (h : t.enc.length ≤ 200000) : isTr t.enc = true := by
  unfold isTr
  rw [scan_enc1, decide_eq_true h]
  rfl
theorem TrAns.tree {K : PySem.W.Frag} {H : Hp} {t : Tr} (h : t.enc.length ≤ 200000) : TrAns K H (.str (S t.enc)) true := by
  have := TrAns.str (K := K) (H := H) (l := t.enc) (by omega)
  rw [isTr_enc h] at this
  exact this
theorem tyx_ex {K : PySem.W.Frag} {H H' : Hp} (e : Ex H H') {v : V} {t : Value} (h : TyX K H v t) : TyX K H' v t := by
  cases h with
  | base h =>
    cases h with
    | non => exact .base .non
    | bl x => exact .base (.bl x)
    | int i => exact .base (.int i)
    | str x => exact .base (.str x)
    | flt x => exact .base (.flt x)
    | lst h => exact .base (.lst (e _ _ h))
    | frz h => exact .base (.frz (e _ _ h))
    | tup h => exact .base (.tup (e _ _ h))
    | dK h => exact .base (.dK (e _ _ h))
    | dT h => exact .base (.dT (e _ _ h))
    | ins h a b c d f => exact .base (.ins (e _ _ h) a b c d f)
  | byt b => exact .byt b
  | set h => exact .set (e _ _ h)
  | kList h c => exact .kList h c
  | kTuple h c => exact .kTuple h c
  | kDict h c => exact .kDict h c
  | fTuple h => exact .fTuple (e _ _ h)
  | fDict h => exact .fDict (e _ _ h)
theorem TrAns.mono {K : PySem.W.Frag} {H H' : Hp} (e : Ex H H') {v : V} {b : Bool} (h : TrAns K H v b) : TrAns K H' v b := by
  cases h with
  | str h => exact .str h
  | lst h => exact .lst (tyx_ex e h)
  | tup h => exact .tup (tyx_ex e h)
  | non => exact .non
  | int i => exact .int i
  | bl b => exact .bl b
theorem enc_inj : ∀ (t u : Tr) (r r' : List Nat), t.enc ++ r = u.enc ++ r' → t = u ∧ r = r'
  | .l, .l, r, r', h => by
    simp only [Tr.enc, List.cons_append, List.nil_append, List.cons.injEq, true_and] at h
    exact ⟨rfl, h⟩
  | .l, .n _ _, r, r', h => by simp [Tr.enc] at h
  | .n _ _, .l, r, r', h => by simp [Tr.enc] at h
  | .n a b, .n c d, r, r', h => by
    simp only [Tr.enc, List.cons_append, List.cons.injEq, true_and, List.append_assoc] at h
    obtain ⟨e1, h⟩ := enc_inj a c _ _ h
    obtain ⟨e2, h⟩ := enc_inj b d _ _ h
    exact ⟨by rw [e1, e2], h⟩
theorem enc_inj1 {t u : Tr} (h : t.enc = u.enc) : t = u := (enc_inj t u [] [] (by rw [h])).1
def tens (n : Nat) : List Nat := (List.replicate n [49, 48]).flatten ++ [48]
theorem flat_len (n : Nat) (l : List Nat) : (List.replicate n l).flatten.length = n * l.length := by
  induction n with
  | zero => simp
  | succ n ih => rw [List.replicate_succ, List.flatten_cons, List.length_append, ih, Nat.succ_mul, Nat.add_comm]
theorem flat_rep {α : Type} (x : α) : ∀ n : Nat, (List.replicate n [x]).flatten = List.replicate n x
  | 0 => rfl
  | n + 1 => by
    rw [List.replicate_succ, List.flatten_cons, flat_rep x n, List.replicate_succ]
    rfl
theorem tens_len (n : Nat) : (tens n).length = 2 * n + 1 := by
  unfold tens
  rw [List.length_append, flat_len]
  show n * 2 + 1 = _
  omega
/-- the number n as a tree -/
def numT : Nat → Tr
  | 0 => .l
  | n + 1 => .n .l (numT n)
theorem numT_enc : ∀ n, (numT n).enc = tens n
  | 0 => rfl
  | n + 1 => by
    show 49 :: ([48] ++ (numT n).enc) = _
    rw [numT_enc n]
    unfold tens
    rw [List.replicate_succ, List.flatten_cons, List.append_assoc]
    rfl
theorem tens_str (n : Nat) : repS ("10" : Str) n ++ ("0" : Str) = S (tens n) := S_append _ _
theorem tens_inj {n m : Nat} (h : tens n = tens m) : n = m := by
  have := congrArg List.length h
  rw [tens_len, tens_len] at this
  omega
def Tr.hd : Tr → Tr
  | .l => .l
  | .n a _ => a
def Tr.tl : Tr → Tr
  | .l => .l
  | .n _ b => b
theorem drop_head {α : Type} {l r : List α} {c : α} {j : Nat} (h : l.drop j = c :: r) : l[j]? = some c ∧ l.drop (j + 1) = r ∧ j < l.length := by
  have hj : j < l.length := by
    have := congrArg List.length h
    rw [List.length_drop, List.length_cons] at this
    omega
  rw [List.drop_eq_getElem_cons hj] at h
  injection h with h1 h2
  exact ⟨by rw [List.getElem?_eq_getElem hj, h1], h2, hj⟩
theorem end_step {l post : List Nat} {t : Tr} {r : List Tr} {j : Nat} (h : l.drop j = ((t :: r).map Tr.enc).flatten ++ post) :
    j < l.length ∧ ∃ c, l[j]? = some c ∧ ((c = 49 ∧ ∃ a b, l.drop (j + 1) = ((a :: b :: r).map Tr.enc).flatten ++ post) ∨ (c = 48 ∧ l.drop (j + 1) = (r.map Tr.enc).flatten ++ post)) := by
  rw [List.map_cons, List.flatten_cons] at h
  cases t with
  | l =>
    have h' : l.drop j = 48 :: ((r.map Tr.enc).flatten ++ post) := h
    obtain ⟨h1, h2, h3⟩ := drop_head h'
    exact ⟨h3, 48, h1, .inr ⟨rfl, h2⟩⟩
  | n a b =>
    have h' : l.drop j = 49 :: (a.enc ++ b.enc ++ (r.map Tr.enc).flatten ++ post) := h
    obtain ⟨h1, h2, h3⟩ := drop_head h'
    refine ⟨h3, 49, h1, .inl ⟨rfl, a, b, ?_⟩⟩
    rw [h2]
    simp [List.append_assoc]
theorem end_at {l pre t post : List Nat} {j : Nat} (hl : l = pre ++ t ++ post) (h : l.drop j = post) (hj : j ≤ l.length) : j = pre.length + t.length := by
  have h1 := congrArg List.length h
  have h2 := congrArg List.length hl
  rw [List.length_drop] at h1
  rw [List.length_append, List.length_append] at h2
  omega
theorem cut_mid (a b c : List Nat) : cutS (S (a ++ b ++ c)) (some (a.length : Nat)) (some ((a.length + b.length : Nat) : Int)) = S b := by
  rw [S_cut, HT.sIx_nat, HT.sIx_nat, List.length_append, List.length_append, Nat.min_eq_left (by omega), Nat.min_eq_left (by omega), Nat.add_sub_cancel_left, List.append_assoc, List.drop_left, List.take_left]
theorem cut_end (a b : List Nat) : cutS (S (a ++ b)) (some (a.length : Nat)) none = S b := by
  rw [S_cut, HT.sIx_nat, HT.sIx_none, List.length_append, Nat.min_eq_left (by omega), Nat.add_sub_cancel_left, List.drop_left, List.take_length]
theorem cut_start (a b : List Nat) : cutS (S (a ++ b)) none (some (a.length : Nat)) = S a := by
  rw [S_cut, HT.sIx_nat, HT.sIx_none, List.length_append, Nat.min_eq_left (by omega), Nat.sub_zero]
  show S ((a ++ b).take a.length) = S a
  rw [List.take_left]
theorem le_sum {x : Nat} : ∀ {l : List Nat}, x ∈ l → x ≤ l.sum
  | y :: l, h => by
    rw [List.sum_cons]
    rcases List.mem_cons.mp h with h | h
    · omega
    · have := le_sum h
      omega
theorem inV01 (c : Nat) : inV (.str (S [c])) [.str ("0" : Str), .str ("1" : Str)] = (decide (c = 48) || decide (c = 49)) := by
  have e0 : eqV (.str ("0" : Str)) (.str (S [c])) = decide (c = 48) := by
    show decide (("0" : Str) = S [c]) = decide (c = 48)
    by_cases h : c = 48
    · rw [h]; rfl
    · rw [decide_eq_false h, decide_eq_false]
      intro q
      have := S_inj (a := [48]) (b := [c]) q
      simp at this
      exact h this.symm
  have e1 : eqV (.str ("1" : Str)) (.str (S [c])) = decide (c = 49) := by
    show decide (("1" : Str) = S [c]) = decide (c = 49)
    by_cases h : c = 49
    · rw [h]; rfl
    · rw [decide_eq_false h, decide_eq_false]
      intro q
      have := S_inj (a := [49]) (b := [c]) q
      simp at this
      exact h this.symm
  show (eqV (.str ("0" : Str)) (.str (S [c])) || (eqV (.str ("1" : Str)) (.str (S [c])) || false)) = _
  rw [e0, e1, Bool.or_false]
/-! ### lists of trees -/
def listS (ls : List (List Nat)) : List Nat := (ls.map fun l => 49 :: l).flatten ++ [48]
def listT : List Tr → Tr
  | [] => .l
  | t :: r => .n t (listT r)
theorem listT_enc : ∀ ts : List Tr, (listT ts).enc = listS (ts.map Tr.enc)
  | [] => rfl
  | t :: r => by
    show 49 :: (t.enc ++ (listT r).enc) = _
    rw [listT_enc r]
    unfold listS
    simp
/-- every tree is a list -/
def Tr.items : Tr → List Tr
  | .l => []
  | .n a b => a :: b.items
theorem listT_items : ∀ t : Tr, listT t.items = t
  | .l => rfl
  | .n a b => by
    show Tr.n a (listT b.items) = _
    rw [listT_items b]
theorem items_listT : ∀ ts : List Tr, (listT ts).items = ts
  | [] => rfl
  | t :: r => by
    show t :: (listT r).items = _
    rw [items_listT r]
theorem join_S (ls : List (List Nat)) : Txt.join ("" : Str) (ls.map S) = S ls.flatten := by
  refine TL.ext_tl ?_
  rw [TL.join_eq, TL.tl_join]
  have e : (ls.map S).map TL.tl = ls := by
    rw [List.map_map]
    exact List.map_id _
  rw [e]
  show TL.joinL [] ls = ls.flatten
  have : ∀ ls : List (List Nat), TL.joinL [] ls = ls.flatten := by
    intro ls
    induction ls with
    | nil => rfl
    | cons p r ih =>
      cases r with
      | nil => simp [TL.joinL]
      | cons q r =>
        show p ++ ([] ++ TL.joinL [] (q :: r)) = _
        rw [ih]
        simp
  exact this ls
theorem sum_len (ls : List (List Nat)) : ((ls.map fun l => S (49 :: l)).map (·.length)).sum + 1 = (listS ls).length := by
  unfold listS
  rw [List.length_append, List.length_flatten, List.map_map, List.map_map]
  rfl
theorem take_map {α β : Type} {f : α → β} {ls : List α} {i : Nat} {l : α} (h : ls[i]? = some l) : (ls.take (i + 1)).map f = (ls.take i).map f ++ [f l] := by
  rw [List.take_add_one, h, List.map_append]
  rfl
/-- a for over a text's signs -/
theorem for_str {z : List Nat} {g : TG} {tb : TS} {D : Ends} {σ : L2.St} {H : Hp} (Pv : Nat → L2.St → Hp → Prop) (h0 : Pv 0 σ H)
    (hs : ∀ i c σ H, z[i]? = some c → Pv i σ H → g (.str (S [c])) σ H fun σ2 H2 => tb { D with nx := Pv (i + 1), ct := Pv (i + 1), bk := D.nx } σ2 H2) (hd : ∀ σ H, Pv z.length σ H → D.nx σ H) :
    ∃ W : Nat → Nat → L2.St → Hp → Prop, (∃ m, W 0 m σ H) ∧ ∀ i m σ H, W i m σ H →
      ((Its (S z)).stop i H ∧ D.nx σ H) ∨ ((Its (S z)).go i H ∧ ∃ N : L2.St → Hp → Prop, (∀ σ' H', N σ' H' → ∃ m', m' < m ∧ W (i + 1) m' σ' H') ∧ ∀ x H', (Its (S z)).yld i H x H' → g x σ H' fun σ2 H2 => tb { D with nx := N, ct := N, bk := D.nx } σ2 H2) := by
  refine ⟨fun i m s h => Pv i s h ∧ i ≤ z.length ∧ i + m = z.length, ⟨z.length, h0, Nat.zero_le _, by omega⟩, ?_⟩
  rintro i m s h ⟨p, hi, em⟩
  by_cases hlt : i < z.length
  · refine .inr ⟨show i < (S z).cps.size from hlt, Pv (i + 1), fun s' h' p' => ⟨m - 1, by omega, p', hlt, by omega⟩, ?_⟩
    rintro x h' ⟨rfl, c, hc, rfl⟩
    have hc' : z[i]? = some c := by
      have e : (S z).cps[i]? = z[i]? := List.getElem?_toArray
      rw [← e]
      exact hc
    exact hs i c s _ hc' p
  · have e : i = z.length := by omega
    subst e
    exact .inl ⟨Nat.le_refl _, hd _ _ p⟩
theorem drop_cons {α : Type} {z : List α} {i : Nat} {c : α} (h : z[i]? = some c) : z.drop i = c :: z.drop (i + 1) := by
  obtain ⟨hi, e⟩ := List.getElem?_eq_some_iff.mp h
  rw [List.drop_eq_getElem_cons hi, e]
/-! ### a law's end -/
def spLaw (K : PySem.W.Frag) (_ : Str → Option Value) : Sp := fun vs H Q _ => ∃ (a : Addr) (ns : List Int), vs = [.ref a] ∧ SqL K H a (ns.map V.int) ∧ ns.length ≤ 63 ∧ ∀ H', Q (.bl true) H'
theorem walk_law {l : PySem.W.OpenLaw} {k : Nat} {q : Program} {loose : List Str} {XP : (Str → Option Value) → Heap → Prop} {YP : World → Heap → Prop} {d : DefRec} {K : Params → PySem.W.Frag} (hn : l.most = some 63) (hdf : d.params.defaults = []) (hk : k ≤ 60)
    (hY : ∀ (w : World) (h : Heap), YP w h → (K w.params).In h)
    (F : ∀ (w : World) (mg : Str → Option Value) (fa : Addr) (h : Heap), (K w.params).In h → h.Ns mainGlobals mg → mg d.name = some (.ref fa) →
      ∃ fd : FuncData, (∀ (s : Shared) (u : Value), BindsTo s fd ⟨[u], []⟩ [("_law_script", u)]) ∧ ∀ base : Heap, (K w.params).In base → base.Ns mainGlobals mg → FnOk l.prog w (K w.params) mg base CX0 k fa fd ["_law_script"] (spLaw (K w.params) mg)) :
    PySem.W.WalkO q loose XP YP l.row.toRowW d [] (fun f vs => PySem.call f vs) :=
  L2.walk_of (n := 63) (k := k) (x := "_law_script") (CX := fun _ => CX0) (sp := fun w => fun vs H Q _ => ∃ (a : Addr) (ns : List Int), vs = [.ref a] ∧ SqL (K w.params) H a (ns.map V.int) ∧ ns.length ≤ 63 ∧ ∀ H', Q (.bl true) H') hn (by decide) hdf (Room.mono (show Room 60 callerA from ⟨rfl, by decide, by decide⟩) hk) hY F (fun _ _ a ns hl _ hS => ⟨a, ns, rfl, hS, hl, fun _ => rfl⟩) fun _ _ _ _ _ z => z
end NV

set_option Elab.async false
set_option linter.all false
set_option maxRecDepth 100000
set_option maxHeartbeats 4000000
/-! # data: lists and tuples of texts and ints -/
namespace NV
open PySem PySem.Spec PyProof.Rows L2
open Evl (Ex)
mutual
theorem Dp.mono {K : PySem.W.Frag} {H H' : Hp} (e : Ex H H') : ∀ (d : PyData) {v : V}, Dp K H v d → Dp K H' v d
  | .none, _, h => by cases h; exact .non
  | .bool b, _, h => by cases h; exact .bl b
  | .int i, _, h => by cases h; exact .int i
  | .str x, _, h => by cases h; exact .str x
  | .list ds, _, h => by
    cases h with
    | lst hs ha => exact .lst (Evl.ex_l e hs) (DpAll.mono e ds ha)
  | .tuple ds, _, h => by
    cases h with
    | tup hs ha => exact .tup (Evl.ex_t e hs) (DpAll.mono e ds ha)
  | .dict _, _, h => by cases h
theorem DpAll.mono {K : PySem.W.Frag} {H H' : Hp} (e : Ex H H') : ∀ (ds : List PyData) {vs : List V}, DpAll K H vs ds → DpAll K H' vs ds
  | [], _, h => by cases h; exact .nil
  | d :: ds, _, h => by
    cases h with
    | cons h1 h2 => exact .cons (Dp.mono e d h1) (DpAll.mono e ds h2)
end
theorem DpAll.len {K : PySem.W.Frag} {H : Hp} : ∀ {xs : List V} {ds : List PyData}, DpAll K H xs ds → xs.length = ds.length
  | _, _, .nil => rfl
  | _, _, .cons _ t => by rw [List.length_cons, List.length_cons, DpAll.len t]
theorem DpAll.get {K : PySem.W.Frag} {H : Hp} : ∀ {xs : List V} {ds : List PyData} {i : Nat} {x : V}, DpAll K H xs ds → xs[i]? = some x → ∃ d, ds[i]? = some d ∧ Dp K H x d
  | _, _, _, _, .nil, h => by simp at h
  | _, _, 0, _, .cons h t, e => by simp at e; subst e; exact ⟨_, rfl, h⟩
  | _, _, i + 1, _, .cons h t, e => by simp at e; simpa using DpAll.get t e
/-! no bools, no dicts, good texts -/
mutual
def nb : PyData → Bool
  | .none => true
  | .bool _ => false
  | .int _ => true
  | .str x => x.cps.all (· < 0x110000)
  | .list xs => nbAll xs
  | .tuple xs => nbAll xs
  | .dict _ => false
def nbAll : List PyData → Bool
  | [] => true
  | x :: xs => nb x && nbAll xs
end
mutual
theorem nb_lay : ∀ d : PyData, nb d = true → d.canLay0 = true
  | .none, _ => rfl
  | .bool _, h => by cases h
  | .int _, _ => rfl
  | .str x, h => h
  | .list xs, h => nbAll_lay xs h
  | .tuple xs, h => nbAll_lay xs h
  | .dict _, h => by cases h
theorem nbAll_lay : ∀ ds : List PyData, nbAll ds = true → PyData.canLayAll0 ds = true
  | [], _ => rfl
  | x :: xs, h => by
    have h' : (nb x && nbAll xs) = true := h
    rw [Bool.and_eq_true] at h'
    show (x.canLay0 && PyData.canLayAll0 xs) = true
    rw [nb_lay x h'.1, nbAll_lay xs h'.2]
    rfl
end
mutual
theorem eqv_nb : ∀ d e : PyData, nb d = true → nb e = true → (PyData.eqv d e = true ↔ d = e)
  | .none, e, _, h => by cases e <;> simp [PyData.eqv]
  | .bool _, _, h, _ => by cases h
  | .int i, e, _, h => by cases e <;> first | (simp [PyData.eqv]; done) | (cases h)
  | .str x, e, _, h => by cases e <;> first | (simp [PyData.eqv]; done) | (cases h)
  | .list xs, e, hx, h => by
    cases e with
    | list ys =>
      show PyData.eqvAll xs ys = true ↔ _
      rw [eqvAll_nb xs ys hx h]
      exact ⟨fun q => by rw [q], fun q => PyData.list.inj q⟩
    | bool _ => cases h
    | dict _ => cases h
    | _ => simp [PyData.eqv]
  | .tuple xs, e, hx, h => by
    cases e with
    | tuple ys =>
      show PyData.eqvAll xs ys = true ↔ _
      rw [eqvAll_nb xs ys hx h]
      exact ⟨fun q => by rw [q], fun q => PyData.tuple.inj q⟩
    | bool _ => cases h
    | dict _ => cases h
    | _ => simp [PyData.eqv]
  | .dict _, _, h, _ => by cases h
theorem eqvAll_nb : ∀ xs ys : List PyData, nbAll xs = true → nbAll ys = true → (PyData.eqvAll xs ys = true ↔ xs = ys)
  | [], [], _, _ => by simp [PyData.eqvAll]
  | [], _ :: _, _, _ => by simp [PyData.eqvAll]
  | _ :: _, [], _, _ => by simp [PyData.eqvAll]
  | x :: xs, y :: ys, hx, hy => by
    have hx' : (nb x && nbAll xs) = true := hx
    have hy' : (nb y && nbAll ys) = true := hy
    rw [Bool.and_eq_true] at hx' hy'
    show (PyData.eqv x y && PyData.eqvAll xs ys) = true ↔ _
    rw [Bool.and_eq_true, eqv_nb x y hx'.1 hy'.1, eqvAll_nb xs ys hx'.2 hy'.2]
    exact ⟨fun q => by rw [q.1, q.2], fun q => by injection q with a b; exact ⟨a, b⟩⟩
end
theorem eqv_dec {d e : PyData} {p : Prop} [Decidable p] (hd : nb d = true) (he : nb e = true) (h : d = e ↔ p) : PyData.eqv d e = decide p := by
  have := eqv_nb d e hd he
  by_cases q : p
  · rw [decide_eq_true q, this.mpr (h.mpr q)]
  · rw [decide_eq_false q]
    cases z : PyData.eqv d e with
    | false => rfl
    | true => exact absurd (h.mp (this.mp z)) q
theorem shaped_of {d : PyData} (h : nb d = true) (hd : d.depth ≤ 64) : SeqAt.shaped d = true := by
  show (d.canLay0 && decide (d.depth ≤ 64)) = true
  rw [nb_lay d h, decide_eq_true hd]
  rfl
/-- signs that a text may have -/
def sOk (l : List Nat) : Bool := l.all (· < 0x110000)
theorem nb_S (l : List Nat) : nb (.str (S l)) = sOk l := by
  show (l.toArray.all fun x => decide (x < 0x110000)) = _
  rw [List.all_toArray]
  rfl
theorem sOk_enc : ∀ t : Tr, sOk t.enc = true
  | .l => rfl
  | .n a b => by
    have h1 := sOk_enc a
    have h2 := sOk_enc b
    unfold sOk at *
    show (decide (49 < 0x110000) && (a.enc ++ b.enc).all _) = true
    rw [List.all_append, h1, h2]
    rfl
end NV

set_option Elab.async false
set_option linter.all false
set_option maxRecDepth 100000
set_option maxHeartbeats 4000000
/-! # programs -/
namespace NV
open PySem PySem.Spec PyProof.Rows L2
open Evl (Ex)
/-- what a loop over a list does, its body of any form -/
theorem walk_list {K : PySem.W.Frag} {a : Addr} {xs : List V} {B : V → Hp → (Hp → Prop) → Prop} {Qd : Hp → Prop} {H1 : Hp} (Pv : Nat → Hp → Prop) (h0 : Pv 0 H1) (hl : ∀ i H, i ≤ xs.length → Pv i H → SqL K H a xs)
    (hs : ∀ i x H, xs[i]? = some x → Pv i H → B x H (Pv (i + 1))) (hd : ∀ H, Pv xs.length H → Qd H) :
    ∃ W : Nat → Nat → Hp → Prop, (∃ m, W 0 m H1) ∧ ∀ i m H, W i m H → ((Itl K a).stop i H ∧ Qd H) ∨ ((Itl K a).go i H ∧ ∃ Nx : Hp → Prop, (∀ H', Nx H' → ∃ m', m' < m ∧ W (i + 1) m' H') ∧ ∀ x H', (Itl K a).yld i H x H' → B x H' Nx) := by
  refine ⟨fun i m h => i ≤ xs.length ∧ Pv i h ∧ i + m = xs.length, ⟨xs.length, Nat.zero_le _, h0, by omega⟩, ?_⟩
  rintro i m h ⟨hi, p, em⟩
  have q := hl i h hi p
  by_cases hlt : i < xs.length
  · refine .inr ⟨⟨xs, xs[i], q, List.getElem?_eq_getElem hlt⟩, Pv (i + 1), fun h' p' => ⟨m - 1, by omega, hlt, p', by omega⟩, ?_⟩
    rintro x h' ⟨rfl, y⟩
    exact hs i x _ (y xs q) p
  · have e : i = xs.length := by omega
    subst e
    exact .inl ⟨⟨xs, q, Nat.le_refl _⟩, hd _ p⟩
theorem walk_tup {K : PySem.W.Frag} {a : Addr} {xs : List V} {B : V → Hp → (Hp → Prop) → Prop} {Qd : Hp → Prop} {H1 : Hp} (Pv : Nat → Hp → Prop) (h0 : Pv 0 H1) (hl : ∀ i H, i ≤ xs.length → Pv i H → SqT K H a xs)
    (hs : ∀ i x H, xs[i]? = some x → Pv i H → B x H (Pv (i + 1))) (hd : ∀ H, Pv xs.length H → Qd H) :
    ∃ W : Nat → Nat → Hp → Prop, (∃ m, W 0 m H1) ∧ ∀ i m H, W i m H → ((Itt K a).stop i H ∧ Qd H) ∨ ((Itt K a).go i H ∧ ∃ Nx : Hp → Prop, (∀ H', Nx H' → ∃ m', m' < m ∧ W (i + 1) m' H') ∧ ∀ x H', (Itt K a).yld i H x H' → B x H' Nx) := by
  refine ⟨fun i m h => i ≤ xs.length ∧ Pv i h ∧ i + m = xs.length, ⟨xs.length, Nat.zero_le _, h0, by omega⟩, ?_⟩
  rintro i m h ⟨hi, p, em⟩
  have q := hl i h hi p
  by_cases hlt : i < xs.length
  · refine .inr ⟨⟨xs, xs[i], q, List.getElem?_eq_getElem hlt⟩, Pv (i + 1), fun h' p' => ⟨m - 1, by omega, hlt, p', by omega⟩, ?_⟩
    rintro x h' ⟨rfl, y⟩
    exact hs i x _ (y xs q) p
  · have e : i = xs.length := by omega
    subst e
    exact .inl ⟨⟨xs, q, Nat.le_refl _⟩, hd _ p⟩
/-! ### instructions -/
inductive Row where
  | set (a : Nat) (t : Tr)
  | move (a b : Nat)
  | cons (a b c : Nat)
  | head (a b : Nat)
  | tail (a b : Nat)
  | jump (a : Nat) (n : Int)
  deriving DecidableEq
def Row.word : Row → Str
  | .set _ _ => "set"
  | .move _ _ => "move"
  | .cons _ _ _ => "cons"
  | .head _ _ => "head"
  | .tail _ _ => "tail"
  | .jump _ _ => "jump"
def Row.parts : Row → List V
  | .set a t => [.int a, .str (S t.enc)]
  | .move a b => [.int a, .int b]
  | .cons a b c => [.int a, .int b, .int c]
  | .head a b => [.int a, .int b]
  | .tail a b => [.int a, .int b]
  | .jump a n => [.int a, .int n]
def Row.vs (r : Row) : List V := .str r.word :: r.parts
def Row.regs : Row → List Nat
  | .set a _ => [a]
  | .move a b => [a, b]
  | .cons a b c => [a, b, c]
  | .head a b => [a, b]
  | .tail a b => [a, b]
  | .jump a _ => [a]
def Row.ds : Row → List PyData
  | .set a t => [.str ("set" : Str), .int a, .str (S t.enc)]
  | .move a b => [.str ("move" : Str), .int a, .int b]
  | .cons a b c => [.str ("cons" : Str), .int a, .int b, .int c]
  | .head a b => [.str ("head" : Str), .int a, .int b]
  | .tail a b => [.str ("tail" : Str), .int a, .int b]
  | .jump a n => [.str ("jump" : Str), .int a, .int n]
def Row.d (r : Row) : PyData := .tuple r.ds
/-- the tree of a set -/
def Row.tree : Row → Option Tr
  | .set _ t => some t
  | _ => none
def RowAt (K : PySem.W.Frag) (H : Hp) (v : V) (r : Row) : Prop := ∃ p, v = .ref p ∧ SqT K H p r.vs
abbrev PrgL (K : PySem.W.Frag) (H : Hp) : List V → List Row → Prop := Paired (RowAt K H)
/-- a program stands at a -/
def PrgAt (K : PySem.W.Frag) (H : Hp) (a : Addr) (rows : List Row) : Prop := ∃ xs, SqL K H a xs ∧ PrgL K H xs rows
section
variable {K : PySem.W.Frag} {H H' : Hp}
theorem RowAt.mono (e : Ex H H') {v : V} {r : Row} (h : RowAt K H v r) : RowAt K H' v r := by
  obtain ⟨p, e1, h⟩ := h
  exact ⟨p, e1, Evl.ex_t e h⟩
theorem PrgL.mono (e : Ex H H') {xs : List V} {rows : List Row} (h : PrgL K H xs rows) : PrgL K H' xs rows := Paired.mapP h fun _ _ q => q.mono e
theorem PrgAt.mono (e : Ex H H') {a : Addr} {rows : List Row} (h : PrgAt K H a rows) : PrgAt K H' a rows := by
  obtain ⟨xs, h1, h2⟩ := h
  exact ⟨xs, Evl.ex_l e h1, h2.mono e⟩
theorem paired_get {α β : Type} {F : α → β → Prop} : ∀ {xs : List α} {ys : List β} {i : Nat} {x : α}, Paired F xs ys → xs[i]? = some x → ∃ y, ys[i]? = some y ∧ F x y
  | _, _, _, _, .nil, h => by simp at h
  | _, _, 0, _, .cons h t, e => by simp at e; subst e; exact ⟨_, rfl, h⟩
  | _, _, i + 1, _, .cons h t, e => by simp at e; simpa using paired_get t e
theorem paired_get' {α β : Type} {F : α → β → Prop} : ∀ {xs : List α} {ys : List β} {i : Nat} {y : β}, Paired F xs ys → ys[i]? = some y → ∃ x, xs[i]? = some x ∧ F x y
  | _, _, _, _, .nil, h => by simp at h
  | _, _, 0, _, .cons h t, e => by simp at e; subst e; exact ⟨_, rfl, h⟩
  | _, _, i + 1, _, .cons h t, e => by simp at e; simpa using paired_get' t e
theorem paired_app {α β : Type} {F : α → β → Prop} : ∀ {xs xs' : List α} {ys ys' : List β}, Paired F xs ys → Paired F xs' ys' → Paired F (xs ++ xs') (ys ++ ys')
  | _, _, _, _, .nil, h => h
  | _, _, _, _, .cons h t, h' => .cons h (paired_app t h')
theorem paired_rep {α β : Type} {F : α → β → Prop} {x : α} {y : β} (h : F x y) : ∀ n : Nat, Paired F (List.replicate n x) (List.replicate n y)
  | 0 => .nil
  | n + 1 => .cons h (paired_rep h n)
theorem row_dp {v : V} {r : Row} (h : RowAt K H v r) : Dp K H v r.d := by
  obtain ⟨p, rfl, h⟩ := h
  refine .tup h ?_
  cases r with
  | set a t => exact .cons (.str _) (.cons (.int _) (.cons (.str _) .nil))
  | move a b => exact .cons (.str _) (.cons (.int _) (.cons (.int _) .nil))
  | cons a b c => exact .cons (.str _) (.cons (.int _) (.cons (.int _) (.cons (.int _) .nil)))
  | head a b => exact .cons (.str _) (.cons (.int _) (.cons (.int _) .nil))
  | tail a b => exact .cons (.str _) (.cons (.int _) (.cons (.int _) .nil))
  | jump a n => exact .cons (.str _) (.cons (.int _) (.cons (.int _) .nil))
theorem prg_dpAll : ∀ {xs : List V} {rows : List Row}, PrgL K H xs rows → DpAll K H xs (rows.map Row.d)
  | _, _, .nil => .nil
  | _, _, .cons h t => .cons (row_dp h) (prg_dpAll t)
def prgD (rows : List Row) : PyData := .list (rows.map Row.d)
theorem PrgAt.dp {a : Addr} {rows : List Row} (h : PrgAt K H a rows) : Dp K H (.ref a) (prgD rows) := by
  obtain ⟨xs, h1, h2⟩ := h
  exact .lst h1 (prg_dpAll h2)
end
theorem row_nb (r : Row) : nb r.d = true := by
  have hw : ∀ w : Str, (w.cps.all fun c => decide (c < 0x110000)) = true → nb (.str w) = true := fun _ h => h
  cases r with
  | set a t =>
    show (nb (.str ("set" : Str)) && (nb (.int a) && (nb (.str (S t.enc)) && true))) = true
    rw [hw _ (by decide +kernel), nb_S, sOk_enc]; rfl
  | move a b => show (nb (.str ("move" : Str)) && true) = true; rw [hw _ (by decide +kernel)]; rfl
  | cons a b c => show (nb (.str ("cons" : Str)) && true) = true; rw [hw _ (by decide +kernel)]; rfl
  | head a b => show (nb (.str ("head" : Str)) && true) = true; rw [hw _ (by decide +kernel)]; rfl
  | tail a b => show (nb (.str ("tail" : Str)) && true) = true; rw [hw _ (by decide +kernel)]; rfl
  | jump a n => show (nb (.str ("jump" : Str)) && true) = true; rw [hw _ (by decide +kernel)]; rfl
theorem prg_nb : ∀ rows : List Row, nbAll (rows.map Row.d) = true
  | [] => rfl
  | r :: rs => by
    show (nb r.d && nbAll (rs.map Row.d)) = true
    rw [row_nb, prg_nb rs]
    rfl
theorem row_depth (r : Row) : r.d.depth ≤ 1 := by cases r <;> simp [Row.d, Row.ds, PyData.depth, PyData.depthAll]
theorem prg_depth : ∀ rows : List Row, PyData.depthAll (rows.map Row.d) ≤ 1
  | [] => by simp [PyData.depthAll]
  | r :: rs => by
    have h1 := row_depth r
    have h2 := prg_depth rs
    rw [List.map_cons]
    simp only [PyData.depthAll]
    omega
theorem prgD_depth (rows : List Row) : (prgD rows).depth ≤ 2 := by
  have := prg_depth rows
  simp only [prgD, PyData.depth]
  omega
theorem prgD_nb (rows : List Row) : nb (prgD rows) = true := prg_nb rows
theorem prgD_shaped (rows : List Row) : SeqAt.shaped (prgD rows) = true := shaped_of (prgD_nb rows) (by have := prgD_depth rows; omega)
theorem rowD_inj {r s : Row} (h : r.d = s.d) : r = s := by
  have hw : ∀ {a b : Str}, PyData.str a = PyData.str b → a = b := fun h => PyData.str.inj h
  cases r <;> cases s <;> simp only [Row.d, Row.ds, PyData.tuple.injEq, List.cons.injEq, PyData.str.injEq, PyData.int.injEq, and_true, true_and] at h <;>
    first
    | (obtain ⟨h0, _⟩ := h; exact absurd h0 (by decide +kernel))
    | (obtain ⟨h1, h2⟩ := h; rw [enc_inj1 (S_inj h2)]; congr 1; omega)
    | (obtain ⟨h1, h2, h3⟩ := h; congr 1 <;> omega)
    | (obtain ⟨h1, h2⟩ := h; congr 1 <;> omega)
    | (exact absurd h (by simp))
theorem prgD_inj {p q : List Row} (h : prgD p = prgD q) : p = q := by
  have h' := PyData.list.inj h
  have : ∀ p q : List Row, p.map Row.d = q.map Row.d → p = q := by
    intro p
    induction p with
    | nil => intro q h; cases q with
      | nil => rfl
      | cons _ _ => simp at h
    | cons r rs ih => intro q h; cases q with
      | nil => simp at h
      | cons s ss =>
        simp only [List.map_cons, List.cons.injEq] at h
        rw [rowD_inj h.1, ih ss h.2]
  exact this p q h'
theorem prg_eqv (p q : List Row) : PyData.eqv (prgD p) (prgD q) = decide (p = q) :=
  eqv_dec (prgD_nb p) (prgD_nb q) ⟨prgD_inj, fun h => by rw [h]⟩
/-- all but what stands at D stands -/
def Kp (D : Addr) (H H' : Hp) : Prop := ∀ a o, a ≠ D → H a = some o → H' a = some o
theorem Kp.refl (D : Addr) (H : Hp) : Kp D H H := fun _ _ _ h => h
theorem Kp.trans {D : Addr} {H H1 H2 : Hp} (a : Kp D H H1) (b : Kp D H1 H2) : Kp D H H2 := fun x o h e => b x o h (a x o h e)
theorem Kp.of {D : Addr} {H H' : Hp} (e : Ex H H') : Kp D H H' := fun a o _ h => e a o h
theorem Kp.upd {D : Addr} {H H' : Hp} {o : HO} (k : Kp D H H') : Kp D H (upd H' D o) := fun a u h e => by
  rw [upd_ne h]
  exact k a u h e
theorem Kp.ex {D : Addr} {H H' : Hp} (k : Kp D H H') (n : H D = none) : Ex H H' := fun a o h => k a o (ne_of_none h n) h
theorem Kp.exx {D : Addr} {G H H' : Hp} (e : Ex G H) (k : Kp D H H') (n : G D = none) : Ex G H' := fun a o h => k a o (ne_of_none h n) (e a o h)
theorem Kp.t {K : PySem.W.Frag} {D : Addr} {H H' : Hp} {l : List V} (k : Kp D H H') (hD : H D = some (.lst l)) {a : Addr} {xs : List V} (h : SqT K H a xs) : SqT K H' a xs := by
  rcases h with (h | ⟨o, h⟩) | h
  · exact .inl (.inl (k _ _ (fun e => by rw [e, hD] at h; cases h) h))
  · exact .inl (.inr ⟨o, k _ _ (fun e => by rw [e, hD] at h; cases h) h⟩)
  · exact .inr h
theorem Kp.row {K : PySem.W.Frag} {D : Addr} {H H' : Hp} {l : List V} (k : Kp D H H') (hD : H D = some (.lst l)) {v : V} {r : Row} (h : RowAt K H v r) : RowAt K H' v r := by
  obtain ⟨p, e, h⟩ := h
  exact ⟨p, e, k.t hD h⟩
theorem Kp.prg {K : PySem.W.Frag} {D : Addr} {H H' : Hp} {l : List V} (k : Kp D H H') (hD : H D = some (.lst l)) {xs : List V} {rows : List Row} (h : PrgL K H xs rows) : PrgL K H' xs rows := Paired.mapP h fun _ _ q => k.row hD q
/-! ### good programs -/
/-- the instruction with the index at of a program of so many; registers below w -/
def OkRow (w cnt at_ : Nat) : Row → Prop
  | .jump a n => a < w ∧ 0 ≤ (at_ : Int) + n ∧ (at_ : Int) + n ≤ cnt
  | r => ∀ x ∈ r.regs, x < w
def OkPrg (w : Nat) (rows : List Row) : Prop := ∀ i r, rows[i]? = some r → OkRow w rows.length i r
theorem OkRow.regs {w cnt at_ : Nat} {r : Row} (h : OkRow w cnt at_ r) : ∀ x ∈ r.regs, x < w := by
  cases r with
  | jump a n =>
    intro x hx
    rw [List.mem_singleton.mp hx]
    exact h.1
  | _ => exact h
theorem OkPrg.regs {w : Nat} {rows : List Row} (h : OkPrg w rows) : ∀ r ∈ rows, ∀ x ∈ r.regs, x < w := fun r hr => by
  obtain ⟨i, hi, e⟩ := List.getElem_of_mem hr
  exact (h i r (by rw [List.getElem?_eq_getElem hi, e])).regs
def treesLe (n : Nat) (rows : List Row) : Prop := ∀ r ∈ rows, ∀ t, r.tree = some t → t.pairs ≤ n
/-- 1 more than the greatest register, and at least 1 -/
def regsOf (rows : List Row) : List Nat := (rows.map Row.regs).flatten
def wd (rows : List Row) : Nat := (regsOf rows).foldl (fun m r => max m (r + 1)) 1
theorem regs_le (r : Row) : r.regs.length ≤ 3 := by cases r <;> simp [Row.regs]
theorem regsOf_len (rows : List Row) : (regsOf rows).length ≤ 3 * rows.length := by
  unfold regsOf
  induction rows with
  | nil => exact Nat.zero_le _
  | cons r rs ih =>
    have := regs_le r
    rw [List.map_cons, List.flatten_cons, List.length_append, List.length_cons]
    omega
theorem regsOf_take {rows : List Row} {i : Nat} {r : Row} (h : rows[i]? = some r) : regsOf (rows.take (i + 1)) = regsOf (rows.take i) ++ r.regs := by
  unfold regsOf
  rw [take_map h, List.flatten_append, List.flatten_singleton]
theorem foldl_max_ge : ∀ (l : List Nat) (m : Nat), m ≤ l.foldl (fun m r => max m (r + 1)) m ∧ (∀ r ∈ l, r + 1 ≤ l.foldl (fun m r => max m (r + 1)) m) ∧ (l.foldl (fun m r => max m (r + 1)) m = m ∨ ∃ r ∈ l, l.foldl (fun m r => max m (r + 1)) m = r + 1)
  | [], m => ⟨Nat.le_refl _, fun _ h => by simp at h, .inl rfl⟩
  | x :: l, m => by
    obtain ⟨h1, h2, h3⟩ := foldl_max_ge l (max m (x + 1))
    rw [List.foldl_cons]
    refine ⟨by omega, fun r hr => ?_, ?_⟩
    · rcases List.mem_cons.mp hr with h | h
      · rw [h]; omega
      · exact h2 r h
    · rcases h3 with h3 | ⟨r, hr, h3⟩
      · by_cases hm : x + 1 ≤ m
        · left; rw [h3]; omega
        · right; exact ⟨x, List.mem_cons_self, by rw [h3]; omega⟩
      · right; exact ⟨r, List.mem_cons_of_mem _ hr, h3⟩
def wdF (m : Nat) (l : List Nat) : Nat := l.foldl (fun m r => max m (r + 1)) m
theorem wdF_uniq {l : List Nat} {d : Nat} {m : Int} (h : m ∈ (d : Int) :: l.map (fun (r : Nat) => (r : Int) + 1)) (hg : ∀ y, y ∈ (d : Int) :: l.map (fun (r : Nat) => (r : Int) + 1) → y ≤ m) : m = (wdF d l : Nat) := by
  obtain ⟨h1, h2, h3⟩ := foldl_max_ge l d
  have hw : (wdF d l : Int) ≤ m := by
    rcases h3 with h3 | ⟨r, hr, h3⟩
    · have := hg d List.mem_cons_self
      show ((l.foldl (fun m r => max m (r + 1)) d : Nat) : Int) ≤ m
      omega
    · have := hg ((r : Int) + 1) (List.mem_cons_of_mem _ (List.mem_map.mpr ⟨r, hr, rfl⟩))
      show ((l.foldl (fun m r => max m (r + 1)) d : Nat) : Int) ≤ m
      omega
  have hw2 : m ≤ (wdF d l : Int) := by
    show m ≤ ((l.foldl (fun m r => max m (r + 1)) d : Nat) : Int)
    rcases List.mem_cons.mp h with h | h
    · omega
    · obtain ⟨r, hr, e⟩ := List.mem_map.mp h
      have := h2 r hr
      omega
  omega
theorem wd_uniq {rows : List Row} {m : Int} (h : m ∈ (1 : Int) :: (regsOf rows).map (fun (r : Nat) => 1 + (r : Int))) (hg : ∀ y, y ∈ (1 : Int) :: (regsOf rows).map (fun (r : Nat) => 1 + (r : Int)) → y ≤ m) : m = (wd rows : Nat) := by
  obtain ⟨h1, h2, h3⟩ := foldl_max_ge (regsOf rows) 1
  have hw : (wd rows : Int) ≤ m := by
    rcases h3 with h3 | ⟨r, hr, h3⟩
    · have := hg 1 List.mem_cons_self
      show (((regsOf rows).foldl (fun m r => max m (r + 1)) 1 : Nat) : Int) ≤ m
      omega
    · have := hg (1 + (r : Int)) (List.mem_cons_of_mem _ (List.mem_map.mpr ⟨r, hr, rfl⟩))
      show (((regsOf rows).foldl (fun m r => max m (r + 1)) 1 : Nat) : Int) ≤ m
      omega
  have hw2 : m ≤ (wd rows : Int) := by
    show m ≤ (((regsOf rows).foldl (fun m r => max m (r + 1)) 1 : Nat) : Int)
    rcases List.mem_cons.mp h with h | h
    · omega
    · obtain ⟨r, hr, e⟩ := List.mem_map.mp h
      have := h2 r hr
      omega
  omega
end NV
namespace NV
open PySem PySem.Spec PyProof.Rows L2
open Evl (Ex)
/-! ### values of any kind, asked for being a program -/
theorem sql_ty {K : PySem.W.Frag} {H : Hp} {a : Addr} {xs : List V} (h : SqL K H a xs) : TyX K H (.ref a) (.type "list") := by
  rcases h with (h | ⟨o, h⟩) | ⟨o, its, n, h1, h2, _⟩
  · exact .base (.lst h)
  · exact .base (.frz h)
  · exact .kList h1 h2
theorem sqt_ty {K : PySem.W.Frag} {H : Hp} {a : Addr} {xs : List V} (h : SqT K H a xs) : TyX K H (.ref a) (.type "tuple") := by
  rcases h with (h | ⟨o, h⟩) | ⟨o, its, n, h1, h2, _⟩
  · exact .base (.tup h)
  · exact .fTuple h
  · exact .kTuple h1 h2
def wholeD : PyData → Bool
  | .int _ => true
  | _ => false
def regD : PyData → Bool
  | .int i => decide (0 ≤ i) && decide (i < 20)
  | _ => false
def treeD : PyData → Bool
  | .str s => isTr s.cps.toList
  | _ => false
def isRowD (at_ cnt : Int) : PyData → Bool
  | .tuple [.str w, a, b] =>
    if w = "set" then treeD b && regD a
    else if w = "jump" then (match b with | .int n => decide (0 ≤ at_ + n) && decide (at_ + n ≤ cnt) | _ => false) && regD a
    else if w = "move" ∨ w = "head" ∨ w = "tail" then regD a && regD b
    else false
  | .tuple [.str w, a, b, c] => if w = "cons" then regD a && (regD b && regD c) else false
  | _ => false
def rowsD (cnt : Int) : Nat → List PyData → Bool
  | _, [] => true
  | i, d :: ds => isRowD i cnt d && rowsD cnt (i + 1) ds
/-- the signs of the tree of a set -/
def setLen : PyData → Nat
  | .tuple [.str w, _, .str t] => if w = "set" then t.length else 0
  | _ => 0
def isProgD : PyData → Bool
  | .list ds => decide (ds.length ≤ 600) && (rowsD ds.length 0 ds && decide ((ds.map setLen).sum ≤ 200000))
  | _ => false
theorem dp_tr {K : PySem.W.Frag} {H : Hp} {v : V} {d : PyData} (h : Dp K H v d) (hs : ∀ s, d = .str s → s.length ≤ 10000000) : TrAns K H v (treeD d) := by
  cases h with
  | non => exact .non
  | bl b => exact .bl b
  | int i => exact .int i
  | str x =>
    obtain ⟨l, rfl⟩ := S_of x
    exact .str (hs _ rfl)
  | lst h _ => exact .lst (sql_ty h)
  | tup h _ => exact .tup (sqt_ty h)
end NV
namespace NV
open PySem PySem.Spec PyProof.Rows L2
open Evl (Ex)
theorem inV_strs (w : Str) (ws : List Str) : inV (.str w) (ws.map V.str) = decide (w ∈ ws) := by
  have h : inV (.str w) (ws.map V.str) = true ↔ w ∈ ws := by
    unfold inV
    rw [List.any_map, List.any_eq_true]
    constructor
    · rintro ⟨x, hx, e⟩
      have e' : (x == w) = true := e
      rw [← eq_of_beq e']
      exact hx
    · intro hw
      exact ⟨w, hw, show (w == w) = true from beq_self_eq_true w⟩
  by_cases q : w ∈ ws
  · rw [decide_eq_true q, h.mpr q]
  · rw [decide_eq_false q]
    cases z : inV (.str w) (ws.map V.str) with
    | false => rfl
    | true => exact absurd (h.mp z) q
def six : List Str := ["set", "move", "cons", "head", "tail", "jump"]
theorem isRowD_no {at_ cnt : Int} {d : PyData} {ds : List PyData} (h : ∀ w, d ≠ .str w) : isRowD at_ cnt (.tuple (d :: ds)) = false := by
  unfold isRowD
  split
  · rename_i w a b e
    simp only [PyData.tuple.injEq, List.cons.injEq] at e
    exact absurd e.1 (h _)
  · rename_i w a b c e
    simp only [PyData.tuple.injEq, List.cons.injEq] at e
    exact absurd e.1 (h _)
  · rfl
theorem isRowD_word {at_ cnt : Int} {w : Str} {ds : List PyData} (h : w ∉ six) : isRowD at_ cnt (.tuple (.str w :: ds)) = false := by
  have n : w ≠ "set" ∧ w ≠ "move" ∧ w ≠ "cons" ∧ w ≠ "head" ∧ w ≠ "tail" ∧ w ≠ "jump" := by
    refine ⟨?_, ?_, ?_, ?_, ?_, ?_⟩ <;> (rintro rfl; exact h (by decide +kernel))
  obtain ⟨n1, n2, n3, n4, n5, n6⟩ := n
  unfold isRowD
  split
  · rename_i e
    simp only [PyData.tuple.injEq, List.cons.injEq, PyData.str.injEq] at e
    obtain ⟨rfl, _⟩ := e
    rw [if_neg n1, if_neg n6, if_neg (by rintro (q | q | q) <;> first | exact n2 q | exact n4 q | exact n5 q)]
  · rename_i e
    simp only [PyData.tuple.injEq, List.cons.injEq, PyData.str.injEq] at e
    obtain ⟨rfl, _⟩ := e
    rw [if_neg n3]
  · rfl
theorem isRowD_len {at_ cnt : Int} {w : Str} {ds : List PyData} (h : ds.length ≠ (if w = "cons" then 3 else 2)) : isRowD at_ cnt (.tuple (.str w :: ds)) = false := by
  match ds, h with
  | [], _ => rfl
  | [_], _ => rfl
  | [a, b], h =>
    by_cases q : w = "cons"
    · subst q
      simp only [isRowD]
      rw [if_neg (by decide +kernel), if_neg (by decide +kernel), if_neg (by decide +kernel)]
    · rw [if_neg q] at h
      exact absurd rfl h
  | [a, b, c], h =>
    by_cases q : w = "cons"
    · rw [if_pos q] at h
      exact absurd rfl h
    · exact if_neg q
  | _ :: _ :: _ :: _ :: _, _ => rfl
end NV
namespace NV
open PySem PySem.Spec PyProof.Rows L2
open Evl (Ex)
theorem walk_enum {K : PySem.W.Frag} {a : Addr} {xs : List V} {B : V → Hp → (Hp → Prop) → Prop} {Qd : Hp → Prop} {H1 : Hp} (Pv : Nat → Hp → Prop) (h0 : Pv 0 H1) (hl : ∀ i H, i ≤ xs.length → Pv i H → SqL K H a xs)
    (hs : ∀ i x H T, xs[i]? = some x → Pv i H → H T = none → B (.ref T) (upd H T (.tup [.int (i : Nat), x])) (Pv (i + 1))) (hd : ∀ H, Pv xs.length H → Qd H) :
    ∃ W : Nat → Nat → Hp → Prop, (∃ m, W 0 m H1) ∧ ∀ i m H, W i m H → ((Ite K a).stop i H ∧ Qd H) ∨ ((Ite K a).go i H ∧ ∃ Nx : Hp → Prop, (∀ H', Nx H' → ∃ m', m' < m ∧ W (i + 1) m' H') ∧ ∀ x H', (Ite K a).yld i H x H' → B x H' Nx) := by
  refine ⟨fun i m h => i ≤ xs.length ∧ Pv i h ∧ i + m = xs.length, ⟨xs.length, Nat.zero_le _, h0, by omega⟩, ?_⟩
  rintro i m h ⟨hi, p, em⟩
  have q := hl i h hi p
  by_cases hlt : i < xs.length
  · refine .inr ⟨⟨xs, xs[i], q, List.getElem?_eq_getElem hlt⟩, Pv (i + 1), fun h' p' => ⟨m - 1, by omega, hlt, p', by omega⟩, ?_⟩
    rintro x h' ⟨T, y, rfl, hT, rfl, hy⟩
    exact hs i y h T (hy xs q) p hT
  · have e : i = xs.length := by omega
    subst e
    exact .inl ⟨⟨xs, q, Nat.le_refl _⟩, hd _ p⟩
def flagsD (cnt : Int) : Nat → List PyData → List Bool
  | _, [] => []
  | i, d :: ds => isRowD i cnt d :: flagsD cnt (i + 1) ds
theorem flags_snoc (cnt : Int) (d : PyData) : ∀ (xs : List PyData) (j : Nat), flagsD cnt j (xs ++ [d]) = flagsD cnt j xs ++ [isRowD ((j + xs.length : Nat) : Int) cnt d]
  | [], j => rfl
  | x :: xs, j => by
    show isRowD j cnt x :: flagsD cnt (j + 1) (xs ++ [d]) = isRowD j cnt x :: (flagsD cnt (j + 1) xs ++ _)
    rw [flags_snoc cnt d xs (j + 1), List.length_cons, show j + 1 + xs.length = j + (xs.length + 1) by omega]
theorem flags_len (cnt : Int) : ∀ (xs : List PyData) (j : Nat), (flagsD cnt j xs).length = xs.length
  | [], _ => rfl
  | x :: xs, j => by rw [flagsD, List.length_cons, List.length_cons, flags_len cnt xs]
theorem flags_all (cnt : Int) : ∀ (xs : List PyData) (j : Nat), (flagsD cnt j xs).all id = rowsD cnt j xs
  | [], _ => rfl
  | x :: xs, j => by
    show (id (isRowD j cnt x) && (flagsD cnt (j + 1) xs).all id) = _
    rw [flags_all cnt xs (j + 1)]
    rfl
theorem rowsD_get {cnt : Int} : ∀ {xs : List PyData} {j i : Nat} {d : PyData}, rowsD cnt j xs = true → xs[i]? = some d → isRowD ((j + i : Nat) : Int) cnt d = true
  | [], _, _, _, _, h => by simp at h
  | x :: xs, j, 0, d, h, e => by
    simp at e
    subst e
    have h' : (isRowD j cnt x && rowsD cnt (j + 1) xs) = true := h
    rw [Bool.and_eq_true] at h'
    exact h'.1
  | x :: xs, j, i + 1, d, h, e => by
    have h' : (isRowD j cnt x && rowsD cnt (j + 1) xs) = true := h
    rw [Bool.and_eq_true] at h'
    have := rowsD_get (j := j + 1) (i := i) h'.2 (by simpa using e)
    rw [show j + (i + 1) = j + 1 + i by omega]
    exact this
/-- the lengths of the trees of the sets -/
def setL (d : PyData) : List Int := match d with
  | .tuple [.str w, _, .str t] => if w = "set" then [(t.length : Int)] else []
  | _ => []
theorem setL_sum (ds : List PyData) : ((ds.map setL).flatten).sum = ((ds.map setLen).sum : Nat) := by
  induction ds with
  | nil => rfl
  | cons d ds ih =>
    rw [List.map_cons, List.flatten_cons, List.sum_append, ih, List.map_cons, List.sum_cons]
    have : (setL d).sum = ((setLen d : Nat) : Int) := by
      unfold setL setLen
      split
      · split
        · simp
        · rfl
      · rfl
    rw [this]
    omega
theorem row_form {at_ cnt : Int} {d : PyData} (h : isRowD at_ cnt d = true) : (∃ a t, d = .tuple [.str "set", a, .str t] ∧ t.length ≤ 200000) ∨ (∃ w ds, d = .tuple (.str w :: ds) ∧ w ≠ "set" ∧ setL d = []) := by
  unfold isRowD at h
  split at h
  · rename_i w a b
    by_cases q : w = "set"
    · subst q
      rw [if_pos rfl, Bool.and_eq_true] at h
      obtain ⟨ht, _⟩ := h
      cases b with
      | str t =>
        refine .inl ⟨a, t, rfl, ?_⟩
        have ht' : isTr t.cps.toList = true := ht
        unfold isTr at ht'
        rw [Bool.and_eq_true] at ht'
        exact of_decide_eq_true ht'.1
      | _ => cases ht
    · refine .inr ⟨w, [a, b], rfl, q, ?_⟩
      cases b with
      | str t => exact if_neg q
      | _ => rfl
  · rename_i w a b c
    by_cases q : w = "cons"
    · subst q
      exact .inr ⟨"cons", [a, b, c], rfl, by decide +kernel, by simp [setL]⟩
    · rw [if_neg q] at h
      cases h
  · cases h
end NV
namespace NV
open PySem PySem.Spec PyProof.Rows L2
open Evl (Ex)
/-! ### good programs are programs -/
/-- what is_program may be asked of -/
def askD (d : PyData) : Prop := ∀ ds, d = .list ds → (∀ a b s, PyData.tuple [a, b, .str s] ∈ ds → s.length ≤ 10000000) ∧ (∀ es, PyData.tuple es ∈ ds → es.length ≤ 1000)
theorem isRow_ok {r : Row} {at_ cnt : Nat} (h : OkRow 20 cnt at_ r) (ht : ∀ t, r.tree = some t → t.enc.length ≤ 200000) : isRowD at_ cnt r.d = true := by
  have hreg : ∀ x : Nat, x < 20 → regD (.int x) = true := fun x hx => by
    show (decide ((0 : Int) ≤ x) && decide ((x : Int) < 20)) = true
    rw [decide_eq_true (by omega), decide_eq_true (by omega)]; rfl
  cases r with
  | set a t =>
    have h1 := h a (List.mem_cons_self)
    simp only [Row.d, Row.ds, isRowD]
    rw [if_pos trivial, show treeD (.str (S t.enc)) = isTr t.enc from rfl, isTr_enc (ht t rfl), hreg a h1]; rfl
  | move a b =>
    have h1 := h a (List.mem_cons_self)
    have h2 := h b (List.mem_cons_of_mem _ List.mem_cons_self)
    simp only [Row.d, Row.ds, isRowD]
    rw [if_neg (by decide +kernel), if_neg (by decide +kernel), if_pos (by first | trivial | exact .inl trivial | exact .inr trivial | exact .inr (.inl trivial) | exact .inr (.inr trivial)), hreg a h1, hreg b h2]; rfl
  | head a b =>
    have h1 := h a (List.mem_cons_self)
    have h2 := h b (List.mem_cons_of_mem _ List.mem_cons_self)
    simp only [Row.d, Row.ds, isRowD]
    rw [if_neg (by decide +kernel), if_neg (by decide +kernel), if_pos (by first | trivial | exact .inl trivial | exact .inr trivial | exact .inr (.inl trivial) | exact .inr (.inr trivial)), hreg a h1, hreg b h2]; rfl
  | tail a b =>
    have h1 := h a (List.mem_cons_self)
    have h2 := h b (List.mem_cons_of_mem _ List.mem_cons_self)
    simp only [Row.d, Row.ds, isRowD]
    rw [if_neg (by decide +kernel), if_neg (by decide +kernel), if_pos (by first | trivial | exact .inl trivial | exact .inr trivial | exact .inr (.inl trivial) | exact .inr (.inr trivial)), hreg a h1, hreg b h2]; rfl
  | cons a b c =>
    have h1 := h a (List.mem_cons_self)
    have h2 := h b (List.mem_cons_of_mem _ List.mem_cons_self)
    have h3 := h c (List.mem_cons_of_mem _ (List.mem_cons_of_mem _ List.mem_cons_self))
    simp only [Row.d, Row.ds, isRowD]
    rw [if_pos trivial, hreg a h1, hreg b h2, hreg c h3]; rfl
  | jump a n =>
    obtain ⟨h1, h2, h3⟩ := h
    simp only [Row.d, Row.ds, isRowD]
    rw [if_neg (by decide +kernel), if_pos trivial, hreg a h1, decide_eq_true h2, decide_eq_true h3]; rfl
theorem rowsD_ok {cnt : Nat} : ∀ {rows : List Row} {j : Nat}, (∀ i r, rows[i]? = some r → OkRow 20 cnt (j + i) r) → (∀ r ∈ rows, ∀ t, r.tree = some t → t.enc.length ≤ 200000) → rowsD cnt j (rows.map Row.d) = true
  | [], _, _, _ => rfl
  | r :: rs, j, h, ht => by
    show (isRowD j cnt r.d && rowsD cnt (j + 1) (rs.map Row.d)) = true
    rw [isRow_ok (at_ := j) (h 0 r rfl) (ht r List.mem_cons_self), rowsD_ok (j := j + 1) (fun i r' e => by have := h (i + 1) r' (by simpa using e); rw [show j + 1 + i = j + (i + 1) by omega]; exact this) (fun r' h' => ht r' (List.mem_cons_of_mem _ h'))]
    rfl
theorem setLen_row (r : Row) (m : Nat) (h : ∀ t, r.tree = some t → t.enc.length ≤ m) : setLen r.d ≤ m := by
  cases r with
  | set a t =>
    show (if ("set" : Str) = "set" then (S t.enc).length else 0) ≤ m
    rw [if_pos rfl, S_len]; exact h t rfl
  | move a b => exact Nat.zero_le _
  | cons a b c => exact Nat.zero_le _
  | head a b => exact Nat.zero_le _
  | tail a b => exact Nat.zero_le _
  | jump a n => exact Nat.zero_le _
theorem sum_le {α : Type} (f : α → Nat) (m : Nat) : ∀ l : List α, (∀ x ∈ l, f x ≤ m) → (l.map f).sum ≤ m * l.length
  | [], _ => Nat.zero_le _
  | x :: l, h => by
    have h1 := h x List.mem_cons_self
    have h2 := sum_le f m l fun y q => h y (List.mem_cons_of_mem _ q)
    rw [List.map_cons, List.sum_cons, List.length_cons, Nat.mul_succ]
    omega
theorem prg_ask {rows : List Row} (h : ∀ r ∈ rows, ∀ t, r.tree = some t → t.enc.length ≤ 10000000) : askD (prgD rows) := fun ds e => by
  cases e
  refine ⟨fun a b s q => ?_, fun es q => ?_⟩
  · obtain ⟨r, hr, e⟩ := List.mem_map.mp q
    cases r with
    | set x t =>
      simp only [Row.d, Row.ds, PyData.tuple.injEq, List.cons.injEq, PyData.str.injEq] at e
      obtain ⟨_, _, rfl, _⟩ := e
      rw [S_len]
      exact h _ hr t rfl
    | move a b => simp [Row.d, Row.ds] at e
    | cons a b c => simp [Row.d, Row.ds] at e
    | head a b => simp [Row.d, Row.ds] at e
    | tail a b => simp [Row.d, Row.ds] at e
    | jump a b => simp [Row.d, Row.ds] at e
  · obtain ⟨r, hr, e⟩ := List.mem_map.mp q
    cases r <;> (simp only [Row.d, Row.ds, PyData.tuple.injEq] at e; subst e; simp)
end NV

set_option Elab.async false
set_option linter.all false
set_option maxRecDepth 100000
set_option maxHeartbeats 4000000
/-! # parts of tuples and lists, small data -/
namespace NV
open PySem PySem.Spec PyProof.Rows L2
open Evl (Ex)
/-- small data, nested less than n deep -/
def sm : Nat → PyData → Bool
  | 0, _ => false
  | n + 1, d => match d with
    | .none => true
    | .bool _ => true
    | .int _ => true
    | .str s => decide (s.length ≤ 20) && s.cps.all (· < 0x110000)
    | .list xs => decide (xs.length ≤ 100) && xs.all (sm n)
    | .tuple xs => decide (xs.length ≤ 100) && xs.all (sm n)
    | .dict _ => false
theorem sm_mono : ∀ {n m : Nat} {d : PyData}, n ≤ m → sm n d = true → sm m d = true
  | 0, _, _, _, h => by cases h
  | n + 1, 0, _, h, _ => by omega
  | n + 1, m + 1, d, h, hs => by
    have ih : ∀ xs : List PyData, xs.all (sm n) = true → xs.all (sm m) = true := fun xs hx => by
      rw [List.all_eq_true] at hx ⊢
      exact fun x q => sm_mono (by omega) (hx x q)
    cases d with
    | none => rfl
    | bool _ => rfl
    | int _ => rfl
    | str s => exact hs
    | list xs =>
      have hs' : (decide (xs.length ≤ 100) && xs.all (sm n)) = true := hs
      rw [Bool.and_eq_true] at hs'
      show (decide (xs.length ≤ 100) && xs.all (sm m)) = true
      rw [hs'.1, ih xs hs'.2]; rfl
    | tuple xs =>
      have hs' : (decide (xs.length ≤ 100) && xs.all (sm n)) = true := hs
      rw [Bool.and_eq_true] at hs'
      show (decide (xs.length ≤ 100) && xs.all (sm m)) = true
      rw [hs'.1, ih xs hs'.2]; rfl
    | dict _ => cases hs
theorem all_lay {xs : List PyData} (h : ∀ x ∈ xs, x.canLay0 = true) : PyData.canLayAll0 xs = true := by
  induction xs with
  | nil => rfl
  | cons x xs ih =>
    show (x.canLay0 && PyData.canLayAll0 xs) = true
    rw [h x List.mem_cons_self, ih fun y hy => h y (List.mem_cons_of_mem _ hy)]
    rfl
theorem all_depth {n : Nat} {xs : List PyData} (h : ∀ x ∈ xs, x.depth ≤ n) : PyData.depthAll xs ≤ n := by
  induction xs with
  | nil => simp [PyData.depthAll]
  | cons x xs ih =>
    have h1 := h x List.mem_cons_self
    have h2 := ih fun y hy => h y (List.mem_cons_of_mem _ hy)
    simp only [PyData.depthAll]
    omega
theorem sm_lay : ∀ {n : Nat} {d : PyData}, sm n d = true → d.canLay0 = true
  | 0, _, h => by cases h
  | n + 1, d, h => by
    cases d with
    | none => rfl
    | bool _ => rfl
    | int _ => rfl
    | str s =>
      have h' : (decide (s.length ≤ 20) && s.cps.all fun c => decide (c < 0x110000)) = true := h
      rw [Bool.and_eq_true] at h'
      exact h'.2
    | list xs =>
      have h' : (decide (xs.length ≤ 100) && xs.all (sm n)) = true := h
      rw [Bool.and_eq_true, List.all_eq_true] at h'
      exact all_lay fun x hx => sm_lay (h'.2 x hx)
    | tuple xs =>
      have h' : (decide (xs.length ≤ 100) && xs.all (sm n)) = true := h
      rw [Bool.and_eq_true, List.all_eq_true] at h'
      exact all_lay fun x hx => sm_lay (h'.2 x hx)
    | dict _ => cases h
theorem sm_depth : ∀ {n : Nat} {d : PyData}, sm n d = true → d.depth ≤ n
  | 0, _, h => by cases h
  | n + 1, d, h => by
    cases d with
    | none => simp [PyData.depth]
    | bool _ => simp [PyData.depth]
    | int _ => simp [PyData.depth]
    | str s => simp [PyData.depth]
    | list xs =>
      have h' : (decide (xs.length ≤ 100) && xs.all (sm n)) = true := h
      rw [Bool.and_eq_true, List.all_eq_true] at h'
      have := all_depth (n := n) fun x hx => sm_depth (h'.2 x hx)
      simp only [PyData.depth]
      omega
    | tuple xs =>
      have h' : (decide (xs.length ≤ 100) && xs.all (sm n)) = true := h
      rw [Bool.and_eq_true, List.all_eq_true] at h'
      have := all_depth (n := n) fun x hx => sm_depth (h'.2 x hx)
      simp only [PyData.depth]
      omega
    | dict _ => cases h
theorem sm_shaped {n : Nat} {d : PyData} (hn : n ≤ 64) (h : sm n d = true) : SeqAt.shaped d = true := by
  have := sm_depth h
  show (d.canLay0 && decide (d.depth ≤ 64)) = true
  rw [sm_lay h, decide_eq_true (by omega)]
  rfl
/-! ### parts -/
theorem DpAll.take {K : PySem.W.Frag} {H : Hp} : ∀ {xs : List V} {ds : List PyData} (n : Nat), DpAll K H xs ds → DpAll K H (xs.take n) (ds.take n)
  | _, _, 0, _ => .nil
  | _, _, _ + 1, .nil => .nil
  | _, _, n + 1, .cons h t => .cons h (DpAll.take n t)
theorem DpAll.drop {K : PySem.W.Frag} {H : Hp} : ∀ {xs : List V} {ds : List PyData} (n : Nat), DpAll K H xs ds → DpAll K H (xs.drop n) (ds.drop n)
  | _, _, 0, h => h
  | _, _, _ + 1, .nil => .nil
  | _, _, n + 1, .cons _ t => DpAll.drop n t
theorem DpAll.app {K : PySem.W.Frag} {H : Hp} : ∀ {xs ys : List V} {ds es : List PyData}, DpAll K H xs ds → DpAll K H ys es → DpAll K H (xs ++ ys) (ds ++ es)
  | _, _, _, _, .nil, h => h
  | _, _, _, _, .cons h t, h' => .cons h (DpAll.app t h')
/-- a tuple at q of these data -/
def TupD (K : PySem.W.Frag) (H : Hp) (q : Addr) (es : List PyData) : Prop := ∃ ys, SqT K H q ys ∧ DpAll K H ys es
def LstD (K : PySem.W.Frag) (H : Hp) (q : Addr) (es : List PyData) : Prop := ∃ ys, H q = some (.lst ys) ∧ DpAll K H ys es
theorem TupD.mono {K : PySem.W.Frag} {H H' : Hp} (e : Ex H H') {q : Addr} {es : List PyData} (h : TupD K H q es) : TupD K H' q es := by
  obtain ⟨ys, h1, h2⟩ := h
  exact ⟨ys, Evl.ex_t e h1, DpAll.mono e _ h2⟩
theorem LstD.mono {K : PySem.W.Frag} {H H' : Hp} (e : Ex H H') {q : Addr} {es : List PyData} (h : LstD K H q es) : LstD K H' q es := by
  obtain ⟨ys, h1, h2⟩ := h
  exact ⟨ys, e _ _ h1, DpAll.mono e _ h2⟩
theorem TupD.dp {K : PySem.W.Frag} {H : Hp} {q : Addr} {es : List PyData} (h : TupD K H q es) : Dp K H (.ref q) (.tuple es) := by
  obtain ⟨ys, h1, h2⟩ := h
  exact .tup h1 h2
theorem LstD.dp {K : PySem.W.Frag} {H : Hp} {q : Addr} {es : List PyData} (h : LstD K H q es) : Dp K H (.ref q) (.list es) := by
  obtain ⟨ys, h1, h2⟩ := h
  exact .lst (.of h1) h2
def cutD (ds : List PyData) (lo hi : Option Int) : List PyData := (ds.drop (HT.sIx ds.length 0 lo)).take (HT.sIx ds.length ds.length hi - HT.sIx ds.length 0 lo)
theorem DpAll.cut {K : PySem.W.Frag} {H : Hp} {xs : List V} {ds : List PyData} (h : DpAll K H xs ds) (lo hi : Option Int) : DpAll K H (cutV xs lo hi) (cutD ds lo hi) := by
  unfold cutV cutD
  rw [DpAll.len h]
  exact DpAll.take _ (DpAll.drop _ h)
theorem cutD_mem {ds : List PyData} {lo hi : Option Int} : ∀ d ∈ cutD ds lo hi, d ∈ ds := fun d h => List.mem_of_mem_drop (List.mem_of_mem_take h)
theorem cutD_len (ds : List PyData) (lo hi : Option Int) : (cutD ds lo hi).length ≤ ds.length := by
  unfold cutD
  rw [List.length_take, List.length_drop]
  omega
theorem cut_tup {K : PySem.W.Frag} {H : Hp} {a : Addr} {ds : List PyData} {lo hi : Option Int} {Q : VK} (h : TupD K H a ds) (k : ∀ q H', Ex H H' → TupD K H' q (cutD ds lo hi) → Q (.ref q) H') : rSlL K (.ref a) lo hi H Q ∨ rSlA K (.ref a) lo hi H Q := by
  obtain ⟨xs, hx, hd⟩ := h
  have hl := DpAll.len hd
  refine .inr ⟨a, xs, rfl, hx, fun w => k a H (Ex.refl H) ⟨xs, hx, ?_⟩, fun _ q nq => k q _ (Evl.Ex.new nq) ⟨_, .of upd_same, DpAll.cut (DpAll.mono (Evl.Ex.new nq) _ hd) lo hi⟩⟩
  have : cutD ds lo hi = ds := by
    unfold cutD
    rw [← hl, w.1, w.2, hl]
    simp
  rw [this]
  exact hd
theorem cut_lst {K : PySem.W.Frag} {H : Hp} {a : Addr} {xs : List V} {ds : List PyData} {lo hi : Option Int} {Q : VK} (hx : SqL K H a xs) (hd : DpAll K H xs ds) (k : ∀ q H', Ex H H' → LstD K H' q (cutD ds lo hi) → Q (.ref q) H') : rSlL K (.ref a) lo hi H Q ∨ rSlA K (.ref a) lo hi H Q :=
  .inl ⟨a, xs, rfl, hx, fun q nq => k q _ (Evl.Ex.new nq) ⟨_, upd_same, DpAll.cut (DpAll.mono (Evl.Ex.new nq) _ hd) lo hi⟩⟩
theorem cat_tup {K : PySem.W.Frag} {H : Hp} {a b : Addr} {ds es : List PyData} {Q : VK} (h1 : TupD K H a ds) (h2 : TupD K H b es) (hl : ds.length + es.length ≤ 10000) (k : ∀ q H', Ex H H' → TupD K H' q (ds ++ es) → Q (.ref q) H') : rCat (.ref a) (.ref b) H Q ∨ rCatA K (.ref a) (.ref b) H Q := by
  obtain ⟨xs, hx, hd⟩ := h1
  obtain ⟨ys, hy, he⟩ := h2
  have l1 := DpAll.len hd
  have l2 := DpAll.len he
  refine .inr ⟨a, b, xs, ys, rfl, rfl, hx, hy, Nat.le_trans (by omega) (show 10000 ≤ sizeLine by decide), fun e => ?_, fun _ e => ?_, fun _ _ q nq => k q _ (Evl.Ex.new nq) ⟨_, .of upd_same, DpAll.app (DpAll.mono (Evl.Ex.new nq) _ hd) (DpAll.mono (Evl.Ex.new nq) _ he)⟩⟩
  · subst e
    cases hd
    exact k b H (Ex.refl H) ⟨ys, hy, he⟩
  · subst e
    cases he
    refine k a H (Ex.refl H) ⟨xs, hx, ?_⟩
    rw [List.append_nil]
    exact hd
theorem cat_lst {K : PySem.W.Frag} {H : Hp} {a b : Addr} {ds es : List PyData} {Q : VK} (h1 : LstD K H a ds) (h2 : LstD K H b es) (hl : ds.length + es.length ≤ 100000) (k : ∀ q H', Ex H H' → LstD K H' q (ds ++ es) → Q (.ref q) H') : rCat (.ref a) (.ref b) H Q ∨ rCatA K (.ref a) (.ref b) H Q := by
  obtain ⟨xs, hx, hd⟩ := h1
  obtain ⟨ys, hy, he⟩ := h2
  have l1 := DpAll.len hd
  have l2 := DpAll.len he
  exact .inl ⟨a, b, xs, ys, rfl, rfl, hx, hy, Nat.le_trans (by omega) (show 100000 ≤ sizeLine by decide), fun q nq => k q _ (Evl.Ex.new nq) ⟨_, upd_same, DpAll.app (DpAll.mono (Evl.Ex.new nq) _ hd) (DpAll.mono (Evl.Ex.new nq) _ he)⟩⟩
theorem ex_none {H H' : Hp} {a : Addr} (e : Ex H H') (h : H' a = none) : H a = none := by
  cases q : H a with
  | none => rfl
  | some o => rw [e _ _ q] at h; cases h
theorem for_enumS {K : PySem.W.Frag} {a : Addr} {xs : List V} {g : TG} {tb : TS} {D : Ends} {σ : L2.St} {H : Hp} (Pv : Nat → L2.St → Hp → Prop) (h0 : Pv 0 σ H) (hl : ∀ i σ H, i ≤ xs.length → Pv i σ H → SqL K H a xs)
    (hs : ∀ i x σ H T, xs[i]? = some x → Pv i σ H → H T = none → g (.ref T) σ (upd H T (.tup [.int (i : Nat), x])) fun σ2 H2 => tb { D with nx := Pv (i + 1), ct := Pv (i + 1), bk := D.nx } σ2 H2) (hd : ∀ σ H, Pv xs.length σ H → D.nx σ H) :
    ∃ W : Nat → Nat → L2.St → Hp → Prop, (∃ m, W 0 m σ H) ∧ ∀ i m σ H, W i m σ H →
      ((Ite K a).stop i H ∧ D.nx σ H) ∨ ((Ite K a).go i H ∧ ∃ N : L2.St → Hp → Prop, (∀ σ' H', N σ' H' → ∃ m', m' < m ∧ W (i + 1) m' σ' H') ∧ ∀ x H', (Ite K a).yld i H x H' → g x σ H' fun σ2 H2 => tb { D with nx := N, ct := N, bk := D.nx } σ2 H2) := by
  refine ⟨fun i m σ h => i ≤ xs.length ∧ Pv i σ h ∧ i + m = xs.length, ⟨xs.length, Nat.zero_le _, h0, by omega⟩, ?_⟩
  rintro i m σ h ⟨hi, p, em⟩
  have q := hl i σ h hi p
  by_cases hlt : i < xs.length
  · refine .inr ⟨⟨xs, xs[i], q, List.getElem?_eq_getElem hlt⟩, Pv (i + 1), fun σ' h' p' => ⟨m - 1, by omega, hlt, p', by omega⟩, ?_⟩
    rintro x h' ⟨T, y, rfl, hT, rfl, hy⟩
    exact hs i y σ h T (hy xs q) p hT
  · have e : i = xs.length := by omega
    subst e
    exact .inl ⟨⟨xs, q, Nat.le_refl _⟩, hd _ _ p⟩
def clean (w : Nat) : List Row := (List.range (w - 1)).map fun k => Row.set (k + 1) .l
def link (i : Nat) (rows : List Row) : List Row := if i = 0 then rows else clean (wd rows) ++ rows
def chainR : Nat → List (List Row) → List Row
  | _, [] => []
  | i, p :: ps => link i p ++ chainR (i + 1) ps
theorem chainR_snoc (p : List Row) : ∀ (ps : List (List Row)) (j : Nat), chainR j (ps ++ [p]) = chainR j ps ++ link (j + ps.length) p
  | [], j => by
    show link j p ++ [] = [] ++ link (j + 0) p
    rw [List.append_nil]; rfl
  | q :: ps, j => by
    show link j q ++ chainR (j + 1) (ps ++ [p]) = (link j q ++ chainR (j + 1) ps) ++ link (j + (ps.length + 1)) p
    rw [chainR_snoc p ps (j + 1), List.append_assoc, show j + 1 + ps.length = j + (ps.length + 1) by omega]
theorem chainR_len : ∀ (ps : List (List Row)) (j : Nat), (∀ rows ∈ ps, rows.length ≤ 100 ∧ wd rows ≤ 16) → (chainR j ps).length ≤ 200 * ps.length
  | [], _, _ => Nat.zero_le _
  | p :: ps, j, h => by
    have h1 := h p List.mem_cons_self
    have h2 := chainR_len ps (j + 1) fun r hr => h r (List.mem_cons_of_mem _ hr)
    have h3 : (link j p).length ≤ 200 := by
      unfold link clean
      split
      · omega
      · rw [List.length_append, List.length_map, List.length_range]; omega
    show (link j p ++ chainR (j + 1) ps).length ≤ 200 * (ps.length + 1)
    rw [List.length_append]
    omega
/-- lists of programs -/
abbrev Progs (K : PySem.W.Frag) (H : Hp) : List V → List (List Row) → Prop := Paired fun v rows => ∃ q xs, v = .ref q ∧ H q = some (.lst xs) ∧ PrgL K H xs rows
theorem Progs.mono {K : PySem.W.Frag} {H H' : Hp} (e : Ex H H') {ps : List V} {progs : List (List Row)} (h : Progs K H ps progs) : Progs K H' ps progs := Paired.mapP h fun _ _ ⟨q, xs, h1, h2, h3⟩ => ⟨q, xs, h1, e _ _ h2, PrgL.mono e h3⟩
/-! ### programs put together -/
theorem OkRow.mono {w w' c i : Nat} {r : Row} (hw : w ≤ w') (h : OkRow w c i r) : OkRow w' c i r := by
  cases r with
  | jump a n => exact ⟨Nat.lt_of_lt_of_le h.1 hw, h.2⟩
  | _ => exact fun x hx => Nat.lt_of_lt_of_le (h x hx) hw
theorem OkPrg.mono {w w' : Nat} {p : List Row} (hw : w ≤ w') (h : OkPrg w p) : OkPrg w' p := fun i r e => (h i r e).mono hw
theorem OkRow.shift {w c i c' i' : Nat} {r : Row} (h : OkRow w c i r) (h1 : i ≤ i') (h2 : c + i' ≤ c' + i) : OkRow w c' i' r := by
  cases r with
  | jump a n =>
    obtain ⟨q1, q2, q3⟩ := h
    exact ⟨q1, by omega, by omega⟩
  | _ => exact h
theorem okPrg_app {w : Nat} {p q : List Row} (hp : OkPrg w p) (hq : OkPrg w q) : OkPrg w (p ++ q) := fun i r e => by
  by_cases hi : i < p.length
  · rw [List.getElem?_append_left hi] at e
    exact (hp i r e).shift (Nat.le_refl _) (by rw [List.length_append]; omega)
  · rw [List.getElem?_append_right (by omega)] at e
    exact (hq _ r e).shift (by omega) (by rw [List.length_append]; omega)
theorem okPrg_clean {w : Nat} (m : Nat) (h : m ≤ w) : OkPrg w (clean m) := fun i r e => by
  obtain ⟨k, hk, rfl⟩ := map_get e
  have := List.mem_range.mp (mem_of_get hk)
  intro x hx
  rw [List.mem_singleton.mp hx]
  omega
theorem wd_le {w : Nat} {p : List Row} (hw : 1 ≤ w) (h : ∀ r ∈ p, ∀ x ∈ r.regs, x < w) : wd p ≤ w := by
  rcases (foldl_max_ge (regsOf p) 1).2.2 with e | ⟨r, hr, e⟩
  · unfold wd; omega
  · obtain ⟨l, hl, hr'⟩ := List.mem_flatten.mp hr
    obtain ⟨row, hrow, rfl⟩ := List.mem_map.mp hl
    have := h row hrow r hr'
    unfold wd
    omega
theorem okPrg_chain {w : Nat} (hw : 1 ≤ w) : ∀ (ps : List (List Row)) (j : Nat), (∀ p ∈ ps, OkPrg w p) → OkPrg w (chainR j ps)
  | [], _, _ => fun i r e => by simp [chainR] at e
  | p :: ps, j, h => by
    have hp := h p List.mem_cons_self
    refine okPrg_app ?_ (okPrg_chain hw ps (j + 1) fun q hq => h q (List.mem_cons_of_mem _ hq))
    unfold link
    split
    · exact hp
    · exact okPrg_app (okPrg_clean _ (wd_le hw hp.regs)) hp
theorem trees_app {n : Nat} {p q : List Row} (hp : treesLe n p) (hq : treesLe n q) : treesLe n (p ++ q) := fun r hr => by
  rcases List.mem_append.mp hr with h | h
  · exact hp r h
  · exact hq r h
theorem trees_clean (n m : Nat) : treesLe n (clean m) := fun r hr t e => by
  obtain ⟨k, _, rfl⟩ := List.mem_map.mp hr
  cases e
  exact Nat.zero_le _
theorem trees_chain {n : Nat} : ∀ (ps : List (List Row)) (j : Nat), (∀ p ∈ ps, treesLe n p) → treesLe n (chainR j ps)
  | [], _, _ => fun r hr => by simp [chainR] at hr
  | p :: ps, j, h => by
    have hp := h p List.mem_cons_self
    refine trees_app ?_ (trees_chain ps (j + 1) fun q hq => h q (List.mem_cons_of_mem _ hq))
    unfold link
    split
    · exact hp
    · exact trees_app (trees_clean _ _) hp
/-- a good program with small trees, not too long, answers is_program -/
theorem prog_ok {n : Nat} {rows : List Row} (h : OkPrg 20 rows) (hl : rows.length ≤ 600) (ht : treesLe n rows) (hn : (2 * n + 1) * rows.length ≤ 200000) (hn2 : n ≤ 99999) : isProgD (prgD rows) = true := by
  have hl' : (rows.map Row.d).length = rows.length := List.length_map _
  have htl : ∀ r ∈ rows, ∀ t, r.tree = some t → t.enc.length ≤ 2 * n + 1 := fun r hr t e => by
    have := ht r hr t e
    have := t.enc_len
    omega
  have hs := sum_le setLen (2 * n + 1) (rows.map Row.d) fun d hd => by
    obtain ⟨r, hr, rfl⟩ := List.mem_map.mp hd
    exact setLen_row r _ (htl r hr)
  show (decide ((rows.map Row.d).length ≤ 600) && (rowsD ((rows.map Row.d).length : Nat) 0 (rows.map Row.d) && decide (((rows.map Row.d).map setLen).sum ≤ 200000))) = true
  rw [decide_eq_true (by omega), decide_eq_true (by rw [hl'] at hs; omega), hl', rowsD_ok (fun i r e => by rw [Nat.zero_add]; exact h i r e) (fun r hr t e => by have := htl r hr t e; omega)]
  rfl
end NV

namespace NV
open PySem PySem.Spec PyProof.Rows L2
open Evl (Ex)
def top (i : Nat) : Stmt := PySem.Challenge.pw_narcissus_k14_chains.main.body.getD i (.Pass ⟨0, 0, 0, 0⟩)
abbrev s_programs_is_whole : Stmt := top 13
theorem sc_programs_is_whole : FnScope ["value"] ["value"] (defScope s_programs_is_whole) := ⟨rfl, rfl, rfl, by decide +kernel, rfl, by decide +kernel, by decide +kernel⟩
abbrev s_trees_is_tree : Stmt := top 7
theorem sc_trees_is_tree : FnScope ["value", "missing", "sign"] ["value"] (defScope s_trees_is_tree) := ⟨rfl, rfl, rfl, by decide +kernel, rfl, by decide +kernel, by decide +kernel⟩
abbrev s_programs_is_instruction : Stmt := top 14
theorem sc_programs_is_instruction : FnScope ["value", "at", "count", "word", "registers", "part"] ["value", "at", "count"] (defScope s_programs_is_instruction) := ⟨rfl, rfl, rfl, by decide +kernel, rfl, by decide +kernel, by decide +kernel⟩
abbrev s_programs_is_program : Stmt := top 15
theorem sc_programs_is_program : FnScope ["value", "at", "row"] ["value"] (defScope s_programs_is_program) := ⟨rfl, rfl, rfl, by decide +kernel, rfl, by decide +kernel, by decide +kernel⟩
abbrev s_building_checked : Stmt := top 20
theorem sc_building_checked : FnScope ["program"] ["program"] (defScope s_building_checked) := ⟨rfl, rfl, rfl, by decide +kernel, rfl, by decide +kernel, by decide +kernel⟩
abbrev s_building_constant : Stmt := top 23
theorem sc_building_constant : FnScope ["tree"] ["tree"] (defScope s_building_constant) := ⟨rfl, rfl, rfl, by decide +kernel, rfl, by decide +kernel, by decide +kernel⟩
abbrev s_programs_registers_of : Stmt := top 16
theorem sc_programs_registers_of : FnScope ["row"] ["row"] (defScope s_programs_registers_of) := ⟨rfl, rfl, rfl, by decide +kernel, rfl, by decide +kernel, by decide +kernel⟩
abbrev s_programs_width : Stmt := top 17
theorem sc_programs_width : FnScope ["program", "row", "part"] ["program"] (defScope s_programs_width) := ⟨rfl, rfl, rfl, by decide +kernel, rfl, by decide +kernel, by decide +kernel⟩
abbrev s_building_cleaning : Stmt := top 22
theorem sc_building_cleaning : FnScope ["program", "k"] ["program"] (defScope s_building_cleaning) := ⟨rfl, rfl, rfl, by decide +kernel, rfl, by decide +kernel, by decide +kernel⟩
abbrev s_building_widest : Stmt := top 21
theorem sc_building_widest : FnScope ["programs", "found", "program"] ["programs"] (defScope s_building_widest) := ⟨rfl, rfl, rfl, by decide +kernel, rfl, by decide +kernel, by decide +kernel⟩
abbrev s_building_chain : Stmt := top 24
theorem sc_building_chain : FnScope ["programs", "found", "at", "program"] ["programs"] (defScope s_building_chain) := ⟨rfl, rfl, rfl, by decide +kernel, rfl, by decide +kernel, by decide +kernel⟩
abbrev s_L_width : Stmt := top 33
theorem sc_L_width : FnScope ["_law_program_here", "_law_found", "_law_row", "_law_part"] ["_law_program_here"] (defScope s_L_width) := ⟨rfl, rfl, rfl, by decide +kernel, rfl, by decide +kernel, by decide +kernel⟩
abbrev s_L_cleaning : Stmt := top 34
theorem sc_L_cleaning : FnScope ["_law_program_here", "_law_k"] ["_law_program_here"] (defScope s_L_cleaning) := ⟨rfl, rfl, rfl, by decide +kernel, rfl, by decide +kernel, by decide +kernel⟩
abbrev s_L_chain : Stmt := top 35
theorem sc_L_chain : FnScope ["_law_programs", "_law_found", "_law_at"] ["_law_programs"] (defScope s_L_chain) := ⟨rfl, rfl, rfl, by decide +kernel, rfl, by decide +kernel, by decide +kernel⟩
abbrev s_L_draw : Stmt := top 27
theorem sc_L_draw : FnScope ["_law_stream_here", "_law_many", "_law_value"] ["_law_stream_here", "_law_many"] (defScope s_L_draw) := ⟨rfl, rfl, rfl, by decide +kernel, rfl, by decide +kernel, by decide +kernel⟩
abbrev s_L_tree : Stmt := top 28
theorem sc_L_tree : FnScope ["_law_stream_here", "_law_pairs", "_law_signs", "_law_missing"] ["_law_stream_here", "_law_pairs"] (defScope s_L_tree) := ⟨rfl, rfl, rfl, by decide +kernel, rfl, by decide +kernel, by decide +kernel⟩
abbrev s_L_program : Stmt := top 32
theorem sc_L_program : FnScope ["_law_stream_here", "_law_most", "_law_wide", "_law_many", "_law_rows", "_law_at", "_law_word", "_law_a", "_law_b"] ["_law_stream_here", "_law_most", "_law_wide"] (defScope s_L_program) := ⟨rfl, rfl, rfl, by decide +kernel, rfl, by decide +kernel, by decide +kernel⟩
abbrev s_L_stream : Stmt := top 26
theorem sc_L_stream : FnScope ["_law_script", "_law_mixed", "_law_cell"] ["_law_script"] (defScope s_L_stream) := ⟨rfl, rfl, rfl, by decide +kernel, rfl, by decide +kernel, by decide +kernel⟩
abbrev s_L_law : Stmt := top 39
theorem sc_L_law : FnScope ["_law_script", "_law_stream_here", "_law_tree_here", "_law_programs", "_law_k", "_law_given", "_law_program_here", "_law_due", "_law_actual", "_law_held"] ["_law_script"] (defScope s_L_law) := ⟨rfl, rfl, rfl, by decide +kernel, rfl, by decide +kernel, by decide +kernel⟩
structure Txt (K : PySem.W.Frag) (mg : Str → Option Value) (w : World) : Prop where
  x_NarcissusError : ExcK K mg "NarcissusError"
  x_TooLarge : ExcK K mg "TooLarge"
  x_TooWide : ExcK K mg "TooWide"
  m_LEAF : ∃ t, mg "LEAF" = some (.str "0" t)
  m_MOST_CODE : ∃ t, mg "MOST_CODE" = some (.int 600 t)
  m_MOST_TREE : ∃ t, mg "MOST_TREE" = some (.int 200000 t)
  m_MOST_WIDTH : ∃ t, mg "MOST_WIDTH" = some (.int 16 t)
  m_PARTS : GDict K w mg "PARTS" [("set", .int 3), ("move", .int 3), ("cons", .int 4), ("head", .int 3), ("tail", .int 3), ("jump", .int 3)]
  m_REGISTERS : ∃ t, mg "REGISTERS" = some (.int 20 t)
  m_WORDS : GTup K mg "WORDS" [.str "set", .str "move", .str "cons", .str "head", .str "tail", .str "jump"]
  n_abs : mg "abs" = none
  n_all : mg "all" = none
  n_bool : mg "bool" = none
  n_enumerate : mg "enumerate" = none
  n_int : mg "int" = none
  n_isinstance : mg "isinstance" = none
  n_len : mg "len" = none
  n_list : mg "list" = none
  n_max : mg "max" = none
  n_range : mg "range" = none
  n_str : mg "str" = none
  n_sum : mg "sum" = none
  n_tuple : mg "tuple" = none
  f_programs_is_whole : Fn K mg "is_whole" "is_whole" s_programs_is_whole ["value"]
  f_trees_is_tree : Fn K mg "is_tree" "is_tree" s_trees_is_tree ["value"]
  f_programs_is_instruction : Fn K mg "is_instruction" "is_instruction" s_programs_is_instruction ["value", "at", "count"]
  f_programs_is_program : Fn K mg "is_program" "is_program" s_programs_is_program ["value"]
  f_building_checked : Fn K mg "checked" "checked" s_building_checked ["program"]
  f_building_constant : Fn K mg "constant" "constant" s_building_constant ["tree"]
  f_programs_registers_of : Fn K mg "registers_of" "registers_of" s_programs_registers_of ["row"]
  f_programs_width : Fn K mg "width" "width" s_programs_width ["program"]
  f_building_cleaning : Fn K mg "cleaning" "cleaning" s_building_cleaning ["program"]
  f_building_widest : Fn K mg "widest" "widest" s_building_widest ["programs"]
  f_building_chain : Fn K mg "chain" "chain" s_building_chain ["programs"]
  f_L_width : Fn K mg "_law_width" "_law_width" s_L_width ["_law_program_here"]
  f_L_cleaning : Fn K mg "_law_cleaning" "_law_cleaning" s_L_cleaning ["_law_program_here"]
  f_L_chain : Fn K mg "_law_chain" "_law_chain" s_L_chain ["_law_programs"]
  f_L_draw : Fn K mg "_law_draw" "_law_draw" s_L_draw ["_law_stream_here", "_law_many"]
  f_L_tree : Fn K mg "_law_tree" "_law_tree" s_L_tree ["_law_stream_here", "_law_pairs"]
  f_L_program : Fn K mg "_law_program" "_law_program" s_L_program ["_law_stream_here", "_law_most", "_law_wide"]
  f_L_stream : Fn K mg "_law_stream" "_law_stream" s_L_stream ["_law_script"]
theorem txt_mk {K : PySem.W.Frag} {w : World} {h : Heap} {mg : Str → Option Value} (X : K.In h) (G : h.Ns mainGlobals mg)
    {C1 : Addr} (a1 : PySem.W.nsIn K mainGlobals "NarcissusError" = some (some (.ref C1))) (x1 : PySem.W.excIn K C1 [.type "ValueError", .type "Exception", .type "BaseException", .type "object"] "ValueError.__new__" = true) (k1 : PySem.W.keepIn K (.ref C1) = true) (s1 : PySem.W.subIn K (.ref C1) (.type "BaseException") = some true) (t1 : PySem.W.typeIn K (.ref C1) = some (.type "type")) (i1 : PySem.W.isClsIn K C1 = true)
    {C2 : Addr} (a2 : PySem.W.nsIn K mainGlobals "TooLarge" = some (some (.ref C2))) (x2 : PySem.W.excIn K C2 [.type "ValueError", .type "Exception", .type "BaseException", .type "object"] "ValueError.__new__" = true) (k2 : PySem.W.keepIn K (.ref C2) = true) (s2 : PySem.W.subIn K (.ref C2) (.type "BaseException") = some true) (t2 : PySem.W.typeIn K (.ref C2) = some (.type "type")) (i2 : PySem.W.isClsIn K C2 = true)
    {C3 : Addr} (a3 : PySem.W.nsIn K mainGlobals "TooWide" = some (some (.ref C3))) (x3 : PySem.W.excIn K C3 [.type "ValueError", .type "Exception", .type "BaseException", .type "object"] "ValueError.__new__" = true) (k3 : PySem.W.keepIn K (.ref C3) = true) (s3 : PySem.W.subIn K (.ref C3) (.type "BaseException") = some true) (t3 : PySem.W.typeIn K (.ref C3) = some (.type "type")) (i3 : PySem.W.isClsIn K C3 = true)
    {tk4 : Tok} (z4 : PySem.W.nsIn K mainGlobals "LEAF" = some (some (.str "0" tk4)))
    {tk5 : Tok} (z5 : PySem.W.nsIn K mainGlobals "MOST_CODE" = some (some (.int 600 tk5)))
    {tk6 : Tok} (z6 : PySem.W.nsIn K mainGlobals "MOST_TREE" = some (some (.int 200000 tk6)))
    {tk7 : Tok} (z7 : PySem.W.nsIn K mainGlobals "MOST_WIDTH" = some (some (.int 16 tk7)))
    {d8 : Addr} {es8 : Array DictEntry} {nn8 : Nat} {td8_0 td8_1 td8_2 td8_3 td8_4 td8_5 : Tok} (z8 : PySem.W.nsIn K mainGlobals "PARTS" = some (some (.ref d8))) (y8 : K.lookup d8 = some ⟨.type "dict", none, .dict es8 nn8, #[]⟩) (u8 : PySem.W.KeysLit w.params es8.toList) (v8 : (d8 == sysModules) = false)
    (o8_0 : PySem.W.nsIn K d8 "set" = some (some (.int 3 td8_0)))
    (o8_1 : PySem.W.nsIn K d8 "move" = some (some (.int 3 td8_1)))
    (o8_2 : PySem.W.nsIn K d8 "cons" = some (some (.int 4 td8_2)))
    (o8_3 : PySem.W.nsIn K d8 "head" = some (some (.int 3 td8_3)))
    (o8_4 : PySem.W.nsIn K d8 "tail" = some (some (.int 3 td8_4)))
    (o8_5 : PySem.W.nsIn K d8 "jump" = some (some (.int 3 td8_5)))
    {tk9 : Tok} (z9 : PySem.W.nsIn K mainGlobals "REGISTERS" = some (some (.int 20 tk9)))
    {a10 : Addr} {tq10_0 tq10_1 tq10_2 tq10_3 tq10_4 tq10_5 : Tok} {dd10 : Option Addr} {nn10 : Nat} {sl10 : Array (Option Value)} (z10 : PySem.W.nsIn K mainGlobals "WORDS" = some (some (.ref a10))) (y10 : K.lookup a10 = some ⟨.type "tuple", dd10, .seq #[.str "set" tq10_0, .str "move" tq10_1, .str "cons" tq10_2, .str "head" tq10_3, .str "tail" tq10_4, .str "jump" tq10_5] nn10, sl10⟩)
    (z11 : PySem.W.nsIn K mainGlobals "abs" = some none)
    (z12 : PySem.W.nsIn K mainGlobals "all" = some none)
    (z13 : PySem.W.nsIn K mainGlobals "bool" = some none)
    (z14 : PySem.W.nsIn K mainGlobals "enumerate" = some none)
    (z15 : PySem.W.nsIn K mainGlobals "int" = some none)
    (z16 : PySem.W.nsIn K mainGlobals "isinstance" = some none)
    (z17 : PySem.W.nsIn K mainGlobals "len" = some none)
    (z18 : PySem.W.nsIn K mainGlobals "list" = some none)
    (z19 : PySem.W.nsIn K mainGlobals "max" = some none)
    (z20 : PySem.W.nsIn K mainGlobals "range" = some none)
    (z21 : PySem.W.nsIn K mainGlobals "str" = some none)
    (z22 : PySem.W.nsIn K mainGlobals "sum" = some none)
    (z23 : PySem.W.nsIn K mainGlobals "tuple" = some none)
    {f24 : Addr} {od24 an24 : Option Addr} {sl24 : Array (Option Value)} {oc24 kV24 dc24 pm24 cd24 ct24 : Value}
    (a24 : PySem.W.nsIn K mainGlobals "is_whole" = some (some (.ref f24))) (l24 : K.lookup f24 = some ⟨oc24, od24, .func (PySem.W.fnOf "is_whole" "is_whole" (defArgs s_programs_is_whole) (defBody s_programs_is_whole) (defScope s_programs_is_whole) .none kV24 dc24 pm24 an24 cd24 ct24), sl24⟩) (c24 : PySem.W.codeIn K cd24 "is_whole" = true) (k24 : PySem.W.keepIn K (.ref f24) = true)
    {f25 : Addr} {od25 an25 : Option Addr} {sl25 : Array (Option Value)} {oc25 kV25 dc25 pm25 cd25 ct25 : Value}
    (a25 : PySem.W.nsIn K mainGlobals "is_tree" = some (some (.ref f25))) (l25 : K.lookup f25 = some ⟨oc25, od25, .func (PySem.W.fnOf "is_tree" "is_tree" (defArgs s_trees_is_tree) (defBody s_trees_is_tree) (defScope s_trees_is_tree) .none kV25 dc25 pm25 an25 cd25 ct25), sl25⟩) (c25 : PySem.W.codeIn K cd25 "is_tree" = true) (k25 : PySem.W.keepIn K (.ref f25) = true)
    {f26 : Addr} {od26 an26 : Option Addr} {sl26 : Array (Option Value)} {oc26 kV26 dc26 pm26 cd26 ct26 : Value}
    (a26 : PySem.W.nsIn K mainGlobals "is_instruction" = some (some (.ref f26))) (l26 : K.lookup f26 = some ⟨oc26, od26, .func (PySem.W.fnOf "is_instruction" "is_instruction" (defArgs s_programs_is_instruction) (defBody s_programs_is_instruction) (defScope s_programs_is_instruction) .none kV26 dc26 pm26 an26 cd26 ct26), sl26⟩) (c26 : PySem.W.codeIn K cd26 "is_instruction" = true) (k26 : PySem.W.keepIn K (.ref f26) = true)
    {f27 : Addr} {od27 an27 : Option Addr} {sl27 : Array (Option Value)} {oc27 kV27 dc27 pm27 cd27 ct27 : Value}
    (a27 : PySem.W.nsIn K mainGlobals "is_program" = some (some (.ref f27))) (l27 : K.lookup f27 = some ⟨oc27, od27, .func (PySem.W.fnOf "is_program" "is_program" (defArgs s_programs_is_program) (defBody s_programs_is_program) (defScope s_programs_is_program) .none kV27 dc27 pm27 an27 cd27 ct27), sl27⟩) (c27 : PySem.W.codeIn K cd27 "is_program" = true) (k27 : PySem.W.keepIn K (.ref f27) = true)
    {f28 : Addr} {od28 an28 : Option Addr} {sl28 : Array (Option Value)} {oc28 kV28 dc28 pm28 cd28 ct28 : Value}
    (a28 : PySem.W.nsIn K mainGlobals "checked" = some (some (.ref f28))) (l28 : K.lookup f28 = some ⟨oc28, od28, .func (PySem.W.fnOf "checked" "checked" (defArgs s_building_checked) (defBody s_building_checked) (defScope s_building_checked) .none kV28 dc28 pm28 an28 cd28 ct28), sl28⟩) (c28 : PySem.W.codeIn K cd28 "checked" = true) (k28 : PySem.W.keepIn K (.ref f28) = true)
    {f29 : Addr} {od29 an29 : Option Addr} {sl29 : Array (Option Value)} {oc29 kV29 dc29 pm29 cd29 ct29 : Value}
    (a29 : PySem.W.nsIn K mainGlobals "constant" = some (some (.ref f29))) (l29 : K.lookup f29 = some ⟨oc29, od29, .func (PySem.W.fnOf "constant" "constant" (defArgs s_building_constant) (defBody s_building_constant) (defScope s_building_constant) .none kV29 dc29 pm29 an29 cd29 ct29), sl29⟩) (c29 : PySem.W.codeIn K cd29 "constant" = true) (k29 : PySem.W.keepIn K (.ref f29) = true)
    {f30 : Addr} {od30 an30 : Option Addr} {sl30 : Array (Option Value)} {oc30 kV30 dc30 pm30 cd30 ct30 : Value}
    (a30 : PySem.W.nsIn K mainGlobals "registers_of" = some (some (.ref f30))) (l30 : K.lookup f30 = some ⟨oc30, od30, .func (PySem.W.fnOf "registers_of" "registers_of" (defArgs s_programs_registers_of) (defBody s_programs_registers_of) (defScope s_programs_registers_of) .none kV30 dc30 pm30 an30 cd30 ct30), sl30⟩) (c30 : PySem.W.codeIn K cd30 "registers_of" = true) (k30 : PySem.W.keepIn K (.ref f30) = true)
    {f31 : Addr} {od31 an31 : Option Addr} {sl31 : Array (Option Value)} {oc31 kV31 dc31 pm31 cd31 ct31 : Value}
    (a31 : PySem.W.nsIn K mainGlobals "width" = some (some (.ref f31))) (l31 : K.lookup f31 = some ⟨oc31, od31, .func (PySem.W.fnOf "width" "width" (defArgs s_programs_width) (defBody s_programs_width) (defScope s_programs_width) .none kV31 dc31 pm31 an31 cd31 ct31), sl31⟩) (c31 : PySem.W.codeIn K cd31 "width" = true) (k31 : PySem.W.keepIn K (.ref f31) = true)
    {f32 : Addr} {od32 an32 : Option Addr} {sl32 : Array (Option Value)} {oc32 kV32 dc32 pm32 cd32 ct32 : Value}
    (a32 : PySem.W.nsIn K mainGlobals "cleaning" = some (some (.ref f32))) (l32 : K.lookup f32 = some ⟨oc32, od32, .func (PySem.W.fnOf "cleaning" "cleaning" (defArgs s_building_cleaning) (defBody s_building_cleaning) (defScope s_building_cleaning) .none kV32 dc32 pm32 an32 cd32 ct32), sl32⟩) (c32 : PySem.W.codeIn K cd32 "cleaning" = true) (k32 : PySem.W.keepIn K (.ref f32) = true)
    {f33 : Addr} {od33 an33 : Option Addr} {sl33 : Array (Option Value)} {oc33 kV33 dc33 pm33 cd33 ct33 : Value}
    (a33 : PySem.W.nsIn K mainGlobals "widest" = some (some (.ref f33))) (l33 : K.lookup f33 = some ⟨oc33, od33, .func (PySem.W.fnOf "widest" "widest" (defArgs s_building_widest) (defBody s_building_widest) (defScope s_building_widest) .none kV33 dc33 pm33 an33 cd33 ct33), sl33⟩) (c33 : PySem.W.codeIn K cd33 "widest" = true) (k33 : PySem.W.keepIn K (.ref f33) = true)
    {f34 : Addr} {od34 an34 : Option Addr} {sl34 : Array (Option Value)} {oc34 kV34 dc34 pm34 cd34 ct34 : Value}
    (a34 : PySem.W.nsIn K mainGlobals "chain" = some (some (.ref f34))) (l34 : K.lookup f34 = some ⟨oc34, od34, .func (PySem.W.fnOf "chain" "chain" (defArgs s_building_chain) (defBody s_building_chain) (defScope s_building_chain) .none kV34 dc34 pm34 an34 cd34 ct34), sl34⟩) (c34 : PySem.W.codeIn K cd34 "chain" = true) (k34 : PySem.W.keepIn K (.ref f34) = true)
    {f35 : Addr} {od35 an35 : Option Addr} {sl35 : Array (Option Value)} {oc35 kV35 dc35 pm35 cd35 ct35 : Value}
    (a35 : PySem.W.nsIn K mainGlobals "_law_width" = some (some (.ref f35))) (l35 : K.lookup f35 = some ⟨oc35, od35, .func (PySem.W.fnOf "_law_width" "_law_width" (defArgs s_L_width) (defBody s_L_width) (defScope s_L_width) .none kV35 dc35 pm35 an35 cd35 ct35), sl35⟩) (c35 : PySem.W.codeIn K cd35 "_law_width" = true) (k35 : PySem.W.keepIn K (.ref f35) = true)
    {f36 : Addr} {od36 an36 : Option Addr} {sl36 : Array (Option Value)} {oc36 kV36 dc36 pm36 cd36 ct36 : Value}
    (a36 : PySem.W.nsIn K mainGlobals "_law_cleaning" = some (some (.ref f36))) (l36 : K.lookup f36 = some ⟨oc36, od36, .func (PySem.W.fnOf "_law_cleaning" "_law_cleaning" (defArgs s_L_cleaning) (defBody s_L_cleaning) (defScope s_L_cleaning) .none kV36 dc36 pm36 an36 cd36 ct36), sl36⟩) (c36 : PySem.W.codeIn K cd36 "_law_cleaning" = true) (k36 : PySem.W.keepIn K (.ref f36) = true)
    {f37 : Addr} {od37 an37 : Option Addr} {sl37 : Array (Option Value)} {oc37 kV37 dc37 pm37 cd37 ct37 : Value}
    (a37 : PySem.W.nsIn K mainGlobals "_law_chain" = some (some (.ref f37))) (l37 : K.lookup f37 = some ⟨oc37, od37, .func (PySem.W.fnOf "_law_chain" "_law_chain" (defArgs s_L_chain) (defBody s_L_chain) (defScope s_L_chain) .none kV37 dc37 pm37 an37 cd37 ct37), sl37⟩) (c37 : PySem.W.codeIn K cd37 "_law_chain" = true) (k37 : PySem.W.keepIn K (.ref f37) = true)
    {f38 : Addr} {od38 an38 : Option Addr} {sl38 : Array (Option Value)} {oc38 kV38 dc38 pm38 cd38 ct38 : Value}
    (a38 : PySem.W.nsIn K mainGlobals "_law_draw" = some (some (.ref f38))) (l38 : K.lookup f38 = some ⟨oc38, od38, .func (PySem.W.fnOf "_law_draw" "_law_draw" (defArgs s_L_draw) (defBody s_L_draw) (defScope s_L_draw) .none kV38 dc38 pm38 an38 cd38 ct38), sl38⟩) (c38 : PySem.W.codeIn K cd38 "_law_draw" = true) (k38 : PySem.W.keepIn K (.ref f38) = true)
    {f39 : Addr} {od39 an39 : Option Addr} {sl39 : Array (Option Value)} {oc39 kV39 dc39 pm39 cd39 ct39 : Value}
    (a39 : PySem.W.nsIn K mainGlobals "_law_tree" = some (some (.ref f39))) (l39 : K.lookup f39 = some ⟨oc39, od39, .func (PySem.W.fnOf "_law_tree" "_law_tree" (defArgs s_L_tree) (defBody s_L_tree) (defScope s_L_tree) .none kV39 dc39 pm39 an39 cd39 ct39), sl39⟩) (c39 : PySem.W.codeIn K cd39 "_law_tree" = true) (k39 : PySem.W.keepIn K (.ref f39) = true)
    {f40 : Addr} {od40 an40 : Option Addr} {sl40 : Array (Option Value)} {oc40 kV40 dc40 pm40 cd40 ct40 : Value}
    (a40 : PySem.W.nsIn K mainGlobals "_law_program" = some (some (.ref f40))) (l40 : K.lookup f40 = some ⟨oc40, od40, .func (PySem.W.fnOf "_law_program" "_law_program" (defArgs s_L_program) (defBody s_L_program) (defScope s_L_program) .none kV40 dc40 pm40 an40 cd40 ct40), sl40⟩) (c40 : PySem.W.codeIn K cd40 "_law_program" = true) (k40 : PySem.W.keepIn K (.ref f40) = true)
    {f41 : Addr} {od41 an41 : Option Addr} {sl41 : Array (Option Value)} {oc41 kV41 dc41 pm41 cd41 ct41 : Value}
    (a41 : PySem.W.nsIn K mainGlobals "_law_stream" = some (some (.ref f41))) (l41 : K.lookup f41 = some ⟨oc41, od41, .func (PySem.W.fnOf "_law_stream" "_law_stream" (defArgs s_L_stream) (defBody s_L_stream) (defScope s_L_stream) .none kV41 dc41 pm41 an41 cd41 ct41), sl41⟩) (c41 : PySem.W.codeIn K cd41 "_law_stream" = true) (k41 : PySem.W.keepIn K (.ref f41) = true)
    : Txt K mg w :=
  ⟨⟨C1, PySem.W.mg_of X G a1, x1, k1, s1, t1⟩,
   ⟨C2, PySem.W.mg_of X G a2, x2, k2, s2, t2⟩,
   ⟨C3, PySem.W.mg_of X G a3, x3, k3, s3, t3⟩,
   ⟨_, PySem.W.mg_of X G z4⟩,
   ⟨_, PySem.W.mg_of X G z5⟩,
   ⟨_, PySem.W.mg_of X G z6⟩,
   ⟨_, PySem.W.mg_of X G z7⟩,
   gdict_mk X G z8 y8 u8 v8 (lookup_all (fun q hq => (by simp only [List.mem_cons, List.not_mem_nil, or_false] at hq; rcases hq with rfl | rfl | rfl | rfl | rfl | rfl; exact ⟨_, o8_0, _, rfl⟩; exact ⟨_, o8_1, _, rfl⟩; exact ⟨_, o8_2, _, rfl⟩; exact ⟨_, o8_3, _, rfl⟩; exact ⟨_, o8_4, _, rfl⟩; exact ⟨_, o8_5, _, rfl⟩))),
   ⟨_, PySem.W.mg_of X G z9⟩,
   ⟨a10, PySem.W.mg_of X G z10, fun _ => .inr ⟨_, _, _, y10, rfl, rfl, (by show 6 ≤ sizeLine; decide), .cons ⟨_, rfl⟩ (.cons ⟨_, rfl⟩ (.cons ⟨_, rfl⟩ (.cons ⟨_, rfl⟩ (.cons ⟨_, rfl⟩ (.cons ⟨_, rfl⟩ (.nil))))))⟩⟩,
   PySem.W.mg_none_of X G z11,
   PySem.W.mg_none_of X G z12,
   PySem.W.mg_none_of X G z13,
   PySem.W.mg_none_of X G z14,
   PySem.W.mg_none_of X G z15,
   PySem.W.mg_none_of X G z16,
   PySem.W.mg_none_of X G z17,
   PySem.W.mg_none_of X G z18,
   PySem.W.mg_none_of X G z19,
   PySem.W.mg_none_of X G z20,
   PySem.W.mg_none_of X G z21,
   PySem.W.mg_none_of X G z22,
   PySem.W.mg_none_of X G z23,
   fn_mk X G a24 l24 c24 k24 (fun _ _ _ _ _ _ us hl => match us, hl with | [_], _ => rfl),
   fn_mk X G a25 l25 c25 k25 (fun _ _ _ _ _ _ us hl => match us, hl with | [_], _ => rfl),
   fn_mk X G a26 l26 c26 k26 (fun _ _ _ _ _ _ us hl => match us, hl with | [_, _, _], _ => rfl),
   fn_mk X G a27 l27 c27 k27 (fun _ _ _ _ _ _ us hl => match us, hl with | [_], _ => rfl),
   fn_mk X G a28 l28 c28 k28 (fun _ _ _ _ _ _ us hl => match us, hl with | [_], _ => rfl),
   fn_mk X G a29 l29 c29 k29 (fun _ _ _ _ _ _ us hl => match us, hl with | [_], _ => rfl),
   fn_mk X G a30 l30 c30 k30 (fun _ _ _ _ _ _ us hl => match us, hl with | [_], _ => rfl),
   fn_mk X G a31 l31 c31 k31 (fun _ _ _ _ _ _ us hl => match us, hl with | [_], _ => rfl),
   fn_mk X G a32 l32 c32 k32 (fun _ _ _ _ _ _ us hl => match us, hl with | [_], _ => rfl),
   fn_mk X G a33 l33 c33 k33 (fun _ _ _ _ _ _ us hl => match us, hl with | [_], _ => rfl),
   fn_mk X G a34 l34 c34 k34 (fun _ _ _ _ _ _ us hl => match us, hl with | [_], _ => rfl),
   fn_mk X G a35 l35 c35 k35 (fun _ _ _ _ _ _ us hl => match us, hl with | [_], _ => rfl),
   fn_mk X G a36 l36 c36 k36 (fun _ _ _ _ _ _ us hl => match us, hl with | [_], _ => rfl),
   fn_mk X G a37 l37 c37 k37 (fun _ _ _ _ _ _ us hl => match us, hl with | [_], _ => rfl),
   fn_mk X G a38 l38 c38 k38 (fun _ _ _ _ _ _ us hl => match us, hl with | [_, _], _ => rfl),
   fn_mk X G a39 l39 c39 k39 (fun _ _ _ _ _ _ us hl => match us, hl with | [_, _], _ => rfl),
   fn_mk X G a40 l40 c40 k40 (fun _ _ _ _ _ _ us hl => match us, hl with | [_, _, _], _ => rfl),
   fn_mk X G a41 l41 c41 k41 (fun _ _ _ _ _ _ us hl => match us, hl with | [_], _ => rfl)⟩
def sp_programs_is_whole (K : PySem.W.Frag) (_ : Str → Option Value) : Sp := fun vs H Q _ => ∃ (v : V) (d : PyData), vs = [v] ∧ Dp K H v d ∧ Q (.bl (wholeD d)) H

section
variable {P : Program} {w : World} {K : PySem.W.Frag} {mg : Str → Option Value} {base : Heap}
theorem ok_programs_is_whole (T : Txt K mg w) : Cal P w K mg base CX0 1 "is_whole" ["value"] (sp_programs_is_whole K mg) := by
  refine T.f_programs_is_whole.ok sc_programs_is_whole (fun vs H Q E h => (by obtain ⟨_, _, rfl, _⟩ := h; rfl)) (fun f cdv A outer s H vs Q E hr h => ⟨_, (pss_one (ps_ret (pe_and (pe_callB (cIsi (K := K)) (by rfl) T.n_isinstance PyProof.Rows.boot_isinstance (pa_cons (nv 0) (pa_cons (nTy T.n_int PyProof.Rows.boot_int) pa_nil))) (pe_one (pe_not (pe_callB (cIsi (K := K)) (by rfl) T.n_isinstance PyProof.Rows.boot_isinstance (pa_cons (nv 0) (pa_cons (nTy T.n_bool PyProof.Rows.boot_bool) pa_nil)))))))), ?_⟩)
  obtain ⟨v, d, rfl, hd, k⟩ := h
  cases hd with
  | non => exact ⟨false, rfl, false, rfl, k⟩
  | bl b => exact ⟨true, rfl, true, rfl, true, rfl, true, rfl, k⟩
  | int i => exact ⟨true, rfl, true, rfl, false, rfl, false, rfl, k⟩
  | str s => exact ⟨false, rfl, false, rfl, k⟩
  | lst h _ => exact ⟨_, false, sql_ty h, rfl, false, rfl, k⟩
  | tup h _ => exact ⟨_, false, sqt_ty h, rfl, false, rfl, k⟩
end
def sp_trees_is_tree (K : PySem.W.Frag) (_ : Str → Option Value) : Sp := fun vs H Q _ => ∃ (v : V) (b : Bool), vs = [v] ∧ TrAns K H v b ∧ Q (.bl b) H

section
variable {P : Program} {w : World} {K : PySem.W.Frag} {mg : Str → Option Value} {base : Heap}
theorem ok_trees_is_tree (T : Txt K mg w) : Cal P w K mg base CX0 1 "is_tree" ["value"] (sp_trees_is_tree K mg) := by
  refine T.f_trees_is_tree.ok sc_trees_is_tree (fun vs H Q E h => (by obtain ⟨_, _, rfl, _⟩ := h; rfl)) (fun f cdv A outer s H vs Q E hr h => ⟨_, (pss_cons (ps_if (PW.pt (pw_or (pt_not (nVal (pe_callB (cIsi (K := K)) (by rfl) T.n_isinstance PyProof.Rows.boot_isinstance (pa_cons (nv 0) (pa_cons (nTy T.n_str PyProof.Rows.boot_str) pa_nil))))) (pw_or1 (nCmp oGt (pe_callB (cLen (K := K)) (by rfl) T.n_len PySem.boot_len (pa_cons (nv 0) pa_nil)) (nGlobI T.m_MOST_TREE) (nomark _))))) (pss_one (ps_ret pe_bl)) pss_nil)
      (pss_cons (ps_set (i := 1) sc_trees_is_tree.nd rfl (.inl rfl) pe_int)
      (pss_cons (ps_for PassesOwn.never rfl (piAny (K := K) (nv 0)) (pg_name (i := 2) sc_trees_is_tree.nd rfl (.inl rfl)) (pss_cons (ps_if (PW.pt (pw_or (nCmp (oEq (K := K) hr.units) (nv 1) pe_int (nomark _)) (pw_or1 (nCmp (oNotIn (K := K)) (nv 2) pe_str (by rfl))))) (pss_one (ps_ret pe_bl)) pss_nil)
      (pss_one (ps_if (nCmp (oEq (K := K) hr.units) (nv 2) pe_str (nomark _)) (pss_one (ps_aug (i := 1) sc_trees_is_tree.nd rfl (.inl rfl) pe_int ip_add)) (pss_one (ps_aug (i := 1) sc_trees_is_tree.nd rfl (.inl rfl) pe_int ip_sub))))))
      (pss_one (ps_ret (pe_cmpR (oEq (K := K) hr.units) (nv 1) pe_int (nomark _))))))), ?_⟩)
  obtain ⟨v, b, rfl, av, k'⟩ := h
  cases av with
  | @str l hl =>
    have hz : (S l).length ≤ sizeLine := Nat.le_trans hl (by decide)
    refine ⟨true, rfl, hz, iteD (fun hg => ?_) (fun hg => ?_)⟩
    · have e : isTr l = false := by
        unfold isTr
        rw [decide_eq_false (by have : (l.length : Int) > 200000 := hg; omega)]
        rfl
      rw [e] at k'
      exact k'
    · have hle : l.length ≤ 200000 := by
        have : ¬ ((l.length : Int) > 200000) := hg
        omega
      have ei : isTr l = decide (scan 1 l = some 0) := by
        unfold isTr
        rw [decide_eq_true hle, Bool.true_and]
      rw [ei] at k'
      refine for_str (z := l) (fun i σ' H' => H' = H ∧ ∃ (m : Nat) (c : Option V), σ' = [some (.str (S l)), some (.int m), c] ∧ scan m (l.drop i) = scan 1 l) ⟨rfl, 1, none, rfl, rfl⟩ ?_ ?_
      · rintro i c σ' H' hc ⟨rfl, m, v, rfl, hm⟩
        rw [drop_cons hc] at hm
        have out : scan 1 l = none → Q (.bl false) H' := fun e => by
          rw [e] at k'
          exact k'
        refine iteI (fun e => out ?_) (fun e => ⟨c, rfl, iteN (fun e2 => out ?_) (fun hin => ?_)⟩)
        · have : m = 0 := by omega
          rw [this] at hm
          exact hm.symm
        · obtain ⟨j, rfl⟩ : ∃ j, m = j + 1 := ⟨m - 1, by omega⟩
          have ne : c ≠ 49 ∧ c ≠ 48 := ⟨fun q => e2 (by rw [q]; decide), fun q => e2 (by rw [q]; decide)⟩
          rw [scan_other j _ ne.1 ne.2] at hm
          exact hm.symm
        · obtain ⟨j, rfl⟩ : ∃ j, m = j + 1 := ⟨m - 1, by omega⟩
          have cs : c = 48 ∨ c = 49 := by
            have : c ∈ [48, 49] := hin
            simpa using this
          refine iteS (fun e1 => ?_) (fun e1 => ?_)
          · have : c = 49 := by
              have := S_inj (a := [c]) (b := [49]) e1
              simpa using this
            subst this
            exact ⟨_, rfl, _, _, rfl, rfl, rfl, j + 2, _, rfl, hm⟩
          · have : c = 48 := by
              rcases cs with h | h
              · exact h
              · exact absurd (by rw [h]; rfl) e1
            subst this
            refine ⟨_, rfl, _, _, rfl, rfl, rfl, j, some (.str (S [48])), ?_, hm⟩
            show [some (V.str (S l)), some (V.int (((j + 1 : Nat) : Int) - 1)), some (V.str (S [48]))] = _
            rw [show ((j + 1 : Nat) : Int) - 1 = (j : Int) by omega]
      · rintro σ' H' ⟨rfl, m, v, rfl, hm⟩
        rw [List.drop_length, scan_nil] at hm
        show Q (.bl (decide (V.int (m : Int) = V.int 0))) H'
        have e : decide (V.int (m : Int) = V.int 0) = decide (scan 1 l = some 0) := by
          rw [← hm]
          by_cases h0 : m = 0
          · rw [h0]; rfl
          · rw [decide_eq_false (fun q => h0 (by have := V.int.inj q; omega)), decide_eq_false (fun q => h0 (Option.some.inj q))]
        rw [e]
        exact k'
  | lst ty => exact ⟨_, false, ty, rfl, k'⟩
  | tup ty => exact ⟨_, false, ty, rfl, k'⟩
  | non => exact ⟨false, rfl, k'⟩
  | int _ => exact ⟨false, rfl, k'⟩
  | bl _ => exact ⟨false, rfl, k'⟩
end
theorem regs_all {K : PySem.W.Frag} {mg : Str → Option Value} {x0 x1 x2 x3 : Option V} {q : Addr} {x5 : Option V} {ys : List V} {es : List PyData} {H : Hp} {Q : VK} (hq : SqT K H q ys) (ha : DpAll K H ys es) (hl : es.length ≤ 1000) (k : ∀ H', Ex H H' → Q (.bl (es.all regD)) H') :
    tCB (rAll K) (tCons (tLc (iAnyU K (mV 4)) (gName 5) tYes (tAndV (mCall (sp_programs_is_whole K mg) E0 (tCons (mV 5) tNil)) (tChain (rCI fun i j => decide (i ≤ j)) (rCI fun i j => decide (i < j)) (tC (.int 0)) (mV 5) (tC (.int 20)))) [5]) tNil)
      [x0, x1, x2, x3, some (.ref q), x5] H Q := by
  have hz : sizeLine = 16777216 := sizeLine_eq
  have hyl := DpAll.len ha
  refine .inr ⟨⟨_, hq⟩, fun D nD => lc_tup (K := K) (a := q) (xs := ys) (fun i H' => H' = upd H D (.lst ((es.take i).map fun d => V.bl (regD d)))) rfl (fun i H' _ e => by rw [e]; exact Evl.ex_t (Evl.Ex.new nD) hq) ?_ ?_⟩
  · rintro i x H' hx rfl
    obtain ⟨d, hd, hxd⟩ := DpAll.get ha hx
    have exD := Evl.Ex.new (o := .lst ((es.take i).map fun d => V.bl (regD d))) nD
    have last : ∀ b : Bool, b = regD d → ∃ acc, (upd H D (.lst ((es.take i).map fun d => V.bl (regD d)))) D = some (.lst acc) ∧ acc.length < sizeLine ∧ upd (upd H D (.lst ((es.take i).map fun d => V.bl (regD d)))) D (.lst (acc ++ [V.bl b])) = upd H D (.lst ((es.take (i + 1)).map fun d => V.bl (regD d))) := by
      intro b hb
      refine ⟨_, upd_same, by rw [List.length_map, List.length_take]; omega, ?_⟩
      rw [upd_upd, take_map hd, hb]
    refine ⟨rfl, x, d, rfl, Dp.mono exD _ hxd, ?_⟩
    refine ⟨wholeD d, rfl, iteB (fun hw => ?_) (fun hw => ?_)⟩
    · cases hxd with
      | int n =>
        refine ⟨_, rfl, iteD (fun h0 => ?_) (fun h0 => ?_)⟩
        · exact last _ (by show _ = (decide (0 ≤ n) && decide (n < 20)); rw [decide_eq_true h0]; rfl)
        · exact last _ (by show _ = (decide (0 ≤ n) && decide (n < 20)); rw [decide_eq_false h0]; rfl)
      | _ => cases hw
    · refine last _ ?_
      cases d with
      | int n => cases hw
      | _ => rfl
  · rintro H' rfl
    rw [hyl, List.take_length]
    refine ⟨D, es.map regD, rfl, .of (by rw [upd_same, List.map_map]; rfl), ?_⟩
    rw [List.all_map]
    exact k _ (Evl.Ex.new nD)
def sp_programs_is_instruction (K : PySem.W.Frag) (_ : Str → Option Value) : Sp := fun vs H Q _ => ∃ (v : V) (d : PyData) (at_ cnt : Int), vs = [v, .int at_, .int cnt] ∧ Dp K H v d ∧ (∀ a b s, d = .tuple [a, b, .str s] → s.length ≤ 10000000) ∧ (∀ ds, d = .tuple ds → ds.length ≤ 1000) ∧ ∀ H', Ex H H' → Q (.bl (isRowD at_ cnt d)) H'

section
variable {P : Program} {w : World} {K : PySem.W.Frag} {mg : Str → Option Value} {base : Heap}
theorem ok_programs_is_instruction (T : Txt K mg w)
    (c_programs_is_whole : Cal P w K mg base CX0 1 "is_whole" ["value"] (sp_programs_is_whole K mg))
    (c_trees_is_tree : Cal P w K mg base CX0 1 "is_tree" ["value"] (sp_trees_is_tree K mg)) : Cal P w K mg base CX0 2 "is_instruction" ["value", "at", "count"] (sp_programs_is_instruction K mg) := by
  refine T.f_programs_is_instruction.ok sc_programs_is_instruction (fun vs H Q E h => (by obtain ⟨_, _, _, _, rfl, _⟩ := h; rfl)) (fun f cdv A outer s H vs Q E hr h => ⟨_, (pss_cons (ps_if (PW.pt (pw_or (pt_not (nVal (pe_callB (cIsi (K := K)) (by rfl) T.n_isinstance PyProof.Rows.boot_isinstance (pa_cons (nv 0) (pa_cons (nTy T.n_tuple PyProof.Rows.boot_tuple) pa_nil))))) (pw_or (pt_not (pt_truth (nv 0) (by intro _; rfl))) (pw_or (pt_not (nVal (pe_callB (cIsi (K := K)) (by rfl) T.n_isinstance PyProof.Rows.boot_isinstance (pa_cons (pe_ix (ixU (K := K)) (nv 0) pe_int (fun _ _ => rfl)) (pa_cons (nTy T.n_str PyProof.Rows.boot_str) pa_nil))))) (pw_or1 (nCmp (oNotIn (K := K)) (pe_ix (ixU (K := K)) (nv 0) pe_int (fun _ _ => rfl)) (nGlobT T.m_WORDS) (by rfl))))))) (pss_one (ps_ret pe_bl)) pss_nil)
      (pss_cons (ps_set (i := 3) sc_programs_is_instruction.nd rfl (.inl rfl) (pe_ix (ixU (K := K)) (nv 0) pe_int (fun _ _ => rfl)))
      (pss_cons (ps_if (nCmp (oNe (K := K) hr.units) (pe_callB (cLen (K := K)) (by rfl) T.n_len PySem.boot_len (pa_cons (nv 0) pa_nil)) (nDict T.m_PARTS (nv 3) (fun _ _ => rfl)) (nomark _)) (pss_one (ps_ret pe_bl)) pss_nil)
      (pss_cons (ps_set (i := 4) sc_programs_is_instruction.nd rfl (.inl rfl) (pe_slice (slU (K := K)) (nv 0) (po_some pe_int) po_none))
      (pss_cons (ps_if (nCmp (oEq (K := K) hr.units) (nv 3) pe_str (nomark _)) (pss_cons (ps_if (pt_not (nVal (nCall c_trees_is_tree (hr.mono (by decide)) pass0 (pa_cons (pe_ix (ixU (K := K)) (nv 0) pe_int (fun _ _ => rfl)) pa_nil)))) (pss_one (ps_ret pe_bl)) pss_nil)
      (pss_one (ps_set (i := 4) sc_programs_is_instruction.nd rfl (.inl rfl) (pe_slice (slU (K := K)) (nv 0) (po_some pe_int) (po_some pe_int))))) pss_nil)
      (pss_cons (ps_if (nCmp (oEq (K := K) hr.units) (nv 3) pe_str (nomark _)) (pss_cons (ps_if (PW.pt (pw_or (pt_not (nVal (nCall c_programs_is_whole (hr.mono (by decide)) pass0 (pa_cons (pe_ix (ixU (K := K)) (nv 0) pe_int (fun _ _ => rfl)) pa_nil)))) (pw_or1 (pt_not (pt_chain oLe oLe pe_int (pe_op (oAdd (K := K)) (nv 1) (pe_ix (ixU (K := K)) (nv 0) pe_int (fun _ _ => rfl))) (nv 2)))))) (pss_one (ps_ret pe_bl)) pss_nil)
      (pss_one (ps_set (i := 4) sc_programs_is_instruction.nd rfl (.inl rfl) (pe_slice (slU (K := K)) (nv 0) (po_some pe_int) (po_some pe_int))))) pss_nil)
      (pss_one (ps_ret (pe_callB (cr_all rfl) (by rfl) T.n_all PyProof.Rows.boot_all (pa_cons (pe_lc (own := [("part", 5)]) (g := gName 5) (tt := tYes) rfl sc_programs_is_instruction.nd (piAny (K := K) (nv 4)) (blkOk_by (own := [("part", 5)]) (N := ["value", "at", "count", "word", "registers", "part"]) (sc := defScope s_programs_is_instruction) (by decide +kernel)) (fun _ _ _ _ _ => (pg_name (i := 5) sc_programs_is_instruction.nd rfl (.inl rfl))) (fun _ _ _ _ _ => pts_nil) (fun _ _ _ _ _ => (pe_and (nCall c_programs_is_whole (hr.mono (by decide)) pass0 (pa_cons (nv 5) pa_nil)) (pe_one (pe_chain oLe oLt pe_int (nv 5) (nGlobI T.m_REGISTERS)))))) pa_nil)))))))))), ?_⟩)
  obtain ⟨v, d, at_, cnt, rfl, hd, hs, hn, k⟩ := h
  have hz : sizeLine = 16777216 := sizeLine_eq
  cases hd with
  | non => exact ⟨false, rfl, k _ (Ex.refl _)⟩
  | bl b => exact ⟨false, rfl, k _ (Ex.refl _)⟩
  | int i => exact ⟨false, rfl, k _ (Ex.refl _)⟩
  | str s => exact ⟨false, rfl, k _ (Ex.refl _)⟩
  | lst h _ => exact ⟨_, false, sql_ty h, rfl, k _ (Ex.refl _)⟩
  | @tup a xs ds hx ha =>
    refine ⟨_, true, sqt_ty hx, rfl, ?_⟩
    cases ha with
    | nil => exact ⟨false, .inr (.inl ⟨_, hx, rfl⟩), k _ (Ex.refl _)⟩
    | @cons x0 xr d0 dr h0 hr =>
      refine ⟨true, .inr (.inl ⟨_, hx, rfl⟩), ?_⟩
      refine ⟨_, _, .inr hx, atI_nat (j := 0) rfl, ?_⟩
      have no : (∀ w, d0 ≠ .str w) → ∀ H', Ex H H' → Q (.bl false) H' := fun q H' e => by
        have := k H' e
        rw [isRowD_no q] at this
        exact this
      cases h0 with
      | non => exact ⟨false, rfl, no (fun _ q => by cases q) _ (Ex.refl _)⟩
      | bl b => exact ⟨false, rfl, no (fun _ q => by cases q) _ (Ex.refl _)⟩
      | int i => exact ⟨false, rfl, no (fun _ q => by cases q) _ (Ex.refl _)⟩
      | lst h _ => exact ⟨_, false, sql_ty h, rfl, no (fun _ q => by cases q) _ (Ex.refl _)⟩
      | tup h _ => exact ⟨_, false, sqt_ty h, rfl, no (fun _ q => by cases q) _ (Ex.refl _)⟩
      | str w =>
        refine ⟨true, rfl, _, _, .inr hx, atI_nat (j := 0) rfl, fun wa hwa => ⟨six.map V.str, .inr (hwa H), rfl, by decide +kernel, ?_⟩⟩
        rw [inV_strs]
        refine iteN (fun hw => ?_) (fun hw => ?_)
        · have := k H (Ex.refl H)
          rw [isRowD_word hw] at this
          exact this
        -- the word is one of six: what stands behind its place is its parts
        have xl := DpAll.len hr
        have len : ∀ n : Int, ((((.str w :: xr : List V).length : Nat) : Int) = n) ↔ (dr.length : Int) + 1 = n := fun n => by
          rw [List.length_cons, xl]
          omega
        have hcases : w = "set" ∨ w = "move" ∨ w = "cons" ∨ w = "head" ∨ w = "tail" ∨ w = "jump" := by
          unfold six at hw
          simp only [List.mem_cons, List.not_mem_nil, or_false] at hw
          exact hw
        have out : ∀ {n : Nat}, dr.length ≠ n → n = (if w = "cons" then 3 else 2) → ∀ H', Ex H H' → Q (.bl false) H' := fun h1 h2 H' e => by
          have := k H' e
          rw [isRowD_len (by rw [← h2]; exact h1)] at this
          exact this
        rcases hcases with rfl | rfl | rfl | rfl | rfl | rfl
        · refine ⟨_, _, .inr hx, atI_nat (j := 0) rfl, _, .inr hx, iteNI (fun hne => out (n := 2) (fun e => hne (by rw [len, e]; rfl)) (by decide +kernel) _ (Ex.refl _)) (fun he => ?_)⟩
          have hl : dr.length = 2 := by have := (len _).mp he; omega
          match dr, hr, hl with
          | [d1, d2], .cons (v := x1) h1 (.cons (v := x2) h2 .nil), _ =>
            refine ⟨1, rfl, .inr ⟨a, _, rfl, hx, fun w => absurd (show (1 : Nat) = 0 from w.1) (by decide), fun _ q nq => ?_⟩⟩
            have e1 := Evl.Ex.new (o := .tup (cutV [.str "set", x1, x2] (some 1) none)) nq
            have hx1 := Evl.ex_t e1 hx
            refine ⟨_, _, .inr hx1, rfl, x2, treeD d2, rfl, dp_tr (Dp.mono e1 _ h2) (fun s q => hs (.str "set") d1 s (by rw [q])), ?_⟩
            refine iteB (fun ht => ?_) (fun ht => ?_)
            · have := k _ e1
              have ht' : treeD d2 = false := by
                have : (!treeD d2) = true := ht
                cases q : treeD d2 with
                | false => rfl
                | true => rw [q] at this; cases this
              rw [show isRowD at_ cnt (.tuple [.str "set", d1, d2]) = (treeD d2 && regD d1) from rfl, ht'] at this
              exact this
            · have ht' : treeD d2 = true := by
                have : (!treeD d2) = false := ht
                cases q : treeD d2 with
                | true => rfl
                | false => rw [q] at this; cases this
              refine ⟨1, rfl, 2, rfl, .inr ⟨a, _, rfl, hx1, fun w => absurd (show (1 : Nat) = 0 from w.1) (by decide), fun _ q2 nq2 => ?_⟩⟩
              have e2 := e1.trans (Evl.Ex.new (o := .tup (cutV [.str "set", x1, x2] (some 1) (some 2))) nq2)
              refine regs_all (q := q2) (ys := [x1]) (es := [d1]) (.of upd_same) (.cons (Dp.mono e2 _ h1) .nil) (by show 1 ≤ 1000; decide) (fun H' e => ?_)
              have := k H' (e2.trans e)
              rw [show isRowD at_ cnt (.tuple [.str "set", d1, d2]) = (treeD d2 && regD d1) from rfl, ht'] at this
              rw [show ([d1] : List PyData).all regD = (true && regD d1) by simp]
              exact this
        · refine ⟨_, _, .inr hx, atI_nat (j := 0) rfl, _, .inr hx, iteNI (fun hne => out (n := 2) (fun e => hne (by rw [len, e]; rfl)) (by decide +kernel) _ (Ex.refl _)) (fun he => ?_)⟩
          have hl : dr.length = 2 := by have := (len _).mp he; omega
          match dr, hr, hl with
          | [d1, d2], .cons (v := x1) h1 (.cons (v := x2) h2 .nil), _ =>
            refine ⟨1, rfl, .inr ⟨a, _, rfl, hx, fun w => absurd (show (1 : Nat) = 0 from w.1) (by decide), fun _ q nq => ?_⟩⟩
            have e1 := Evl.Ex.new (o := .tup (cutV [.str "move", x1, x2] (some 1) none)) nq
            refine regs_all (q := q) (ys := [x1, x2]) (es := [d1, d2]) (.of upd_same) (.cons (Dp.mono e1 _ h1) (.cons (Dp.mono e1 _ h2) .nil)) (by show 2 ≤ 1000; decide) (fun H' e => ?_)
            have := k H' (e1.trans e)
            rw [show ([d1, d2] : List PyData).all regD = (regD d1 && regD d2) by simp]
            exact this
        · refine ⟨_, _, .inr hx, atI_nat (j := 0) rfl, _, .inr hx, iteNI (fun hne => out (n := 3) (fun e => hne (by rw [len, e]; rfl)) (by decide +kernel) _ (Ex.refl _)) (fun he => ?_)⟩
          have hl : dr.length = 3 := by have := (len _).mp he; omega
          match dr, hr, hl with
          | [d1, d2, d3], .cons (v := x1) h1 (.cons (v := x2) h2 (.cons (v := x3) h3 .nil)), _ =>
            refine ⟨1, rfl, .inr ⟨a, _, rfl, hx, fun w => absurd (show (1 : Nat) = 0 from w.1) (by decide), fun _ q nq => ?_⟩⟩
            have e1 := Evl.Ex.new (o := .tup (cutV [.str "cons", x1, x2, x3] (some 1) none)) nq
            refine regs_all (q := q) (ys := [x1, x2, x3]) (es := [d1, d2, d3]) (.of upd_same) (.cons (Dp.mono e1 _ h1) (.cons (Dp.mono e1 _ h2) (.cons (Dp.mono e1 _ h3) .nil))) (by show 3 ≤ 1000; decide) (fun H' e => ?_)
            have := k H' (e1.trans e)
            rw [show ([d1, d2, d3] : List PyData).all regD = (regD d1 && (regD d2 && regD d3)) by simp]
            exact this
        · refine ⟨_, _, .inr hx, atI_nat (j := 0) rfl, _, .inr hx, iteNI (fun hne => out (n := 2) (fun e => hne (by rw [len, e]; rfl)) (by decide +kernel) _ (Ex.refl _)) (fun he => ?_)⟩
          have hl : dr.length = 2 := by have := (len _).mp he; omega
          match dr, hr, hl with
          | [d1, d2], .cons (v := x1) h1 (.cons (v := x2) h2 .nil), _ =>
            refine ⟨1, rfl, .inr ⟨a, _, rfl, hx, fun w => absurd (show (1 : Nat) = 0 from w.1) (by decide), fun _ q nq => ?_⟩⟩
            have e1 := Evl.Ex.new (o := .tup (cutV [.str "head", x1, x2] (some 1) none)) nq
            refine regs_all (q := q) (ys := [x1, x2]) (es := [d1, d2]) (.of upd_same) (.cons (Dp.mono e1 _ h1) (.cons (Dp.mono e1 _ h2) .nil)) (by show 2 ≤ 1000; decide) (fun H' e => ?_)
            have := k H' (e1.trans e)
            rw [show ([d1, d2] : List PyData).all regD = (regD d1 && regD d2) by simp]
            exact this
        · refine ⟨_, _, .inr hx, atI_nat (j := 0) rfl, _, .inr hx, iteNI (fun hne => out (n := 2) (fun e => hne (by rw [len, e]; rfl)) (by decide +kernel) _ (Ex.refl _)) (fun he => ?_)⟩
          have hl : dr.length = 2 := by have := (len _).mp he; omega
          match dr, hr, hl with
          | [d1, d2], .cons (v := x1) h1 (.cons (v := x2) h2 .nil), _ =>
            refine ⟨1, rfl, .inr ⟨a, _, rfl, hx, fun w => absurd (show (1 : Nat) = 0 from w.1) (by decide), fun _ q nq => ?_⟩⟩
            have e1 := Evl.Ex.new (o := .tup (cutV [.str "tail", x1, x2] (some 1) none)) nq
            refine regs_all (q := q) (ys := [x1, x2]) (es := [d1, d2]) (.of upd_same) (.cons (Dp.mono e1 _ h1) (.cons (Dp.mono e1 _ h2) .nil)) (by show 2 ≤ 1000; decide) (fun H' e => ?_)
            have := k H' (e1.trans e)
            rw [show ([d1, d2] : List PyData).all regD = (regD d1 && regD d2) by simp]
            exact this
        · refine ⟨_, _, .inr hx, atI_nat (j := 0) rfl, _, .inr hx, iteNI (fun hne => out (n := 2) (fun e => hne (by rw [len, e]; rfl)) (by decide +kernel) _ (Ex.refl _)) (fun he => ?_)⟩
          have hl : dr.length = 2 := by have := (len _).mp he; omega
          match dr, hr, hl with
          | [d1, d2], .cons (v := x1) h1 (.cons (v := x2) h2 .nil), _ =>
            refine ⟨1, rfl, .inr ⟨a, _, rfl, hx, fun w => absurd (show (1 : Nat) = 0 from w.1) (by decide), fun _ q nq => ?_⟩⟩
            have e1 := Evl.Ex.new (o := .tup (cutV [.str "jump", x1, x2] (some 1) none)) nq
            have hx1 := Evl.ex_t e1 hx
            refine ⟨_, _, .inr hx1, rfl, x2, d2, rfl, Dp.mono e1 _ h2, ?_⟩
            have bad : (∀ n : Int, d2 = .int n → ¬ (0 ≤ at_ + n ∧ at_ + n ≤ cnt)) → ∀ H', Ex H H' → Q (.bl false) H' := fun hb H' e => by
              have := k H' e
              have e0 : isRowD at_ cnt (.tuple [.str "jump", d1, d2]) = false := by
                cases d2 with
                | int n =>
                  show ((decide (0 ≤ at_ + n) && decide (at_ + n ≤ cnt)) && regD d1) = false
                  have := hb n rfl
                  by_cases q1 : 0 ≤ at_ + n
                  · rw [decide_eq_true q1, decide_eq_false (fun q2 => this ⟨q1, q2⟩)]; rfl
                  · rw [decide_eq_false q1]; rfl
                | _ => rfl
              rw [e0] at this
              exact this
            refine iteB (fun hw => bad (fun n q => by rw [q] at hw; cases hw) _ e1) (fun hw => ?_)
            cases h2 with
            | int n =>
              refine ⟨_, _, .inr hx1, rfl, ?_⟩
              refine ⟨_, rfl, iteD (fun h0 => ?_) (fun h0 => ?_)⟩
              · refine ⟨_, rfl, iteN (fun h3 => bad (fun m q => by cases q; omega) _ e1) (fun h3 => ?_)⟩
                refine ⟨1, rfl, 2, rfl, .inr ⟨a, _, rfl, hx1, fun w => absurd (show (1 : Nat) = 0 from w.1) (by decide), fun _ q2 nq2 => ?_⟩⟩
                have e2 := e1.trans (Evl.Ex.new (o := .tup (cutV [.str "jump", x1, .int n] (some 1) (some 2))) nq2)
                refine regs_all (q := q2) (ys := [x1]) (es := [d1]) (.of upd_same) (.cons (Dp.mono e2 _ h1) .nil) (by show 1 ≤ 1000; decide) (fun H' e => ?_)
                have := k H' (e2.trans e)
                rw [show isRowD at_ cnt (.tuple [.str "jump", d1, .int n]) = ((decide (0 ≤ at_ + n) && decide (at_ + n ≤ cnt)) && regD d1) from rfl, decide_eq_true h0, decide_eq_true h3] at this
                rw [show ([d1] : List PyData).all regD = (true && regD d1) by simp]
                exact this
              · exact ⟨_, rfl, bad (fun m q => by cases q; omega) _ e1⟩
            | _ => cases hw
end
def sp_programs_is_program (K : PySem.W.Frag) (_ : Str → Option Value) : Sp := fun vs H Q _ => ∃ (v : V) (d : PyData), vs = [v] ∧ Dp K H v d ∧ askD d ∧ ∀ H', Ex H H' → Q (.bl (isProgD d)) H'

section
variable {P : Program} {w : World} {K : PySem.W.Frag} {mg : Str → Option Value} {base : Heap}
theorem ok_programs_is_program (T : Txt K mg w)
    (c_programs_is_instruction : Cal P w K mg base CX0 2 "is_instruction" ["value", "at", "count"] (sp_programs_is_instruction K mg)) : Cal P w K mg base CX0 3 "is_program" ["value"] (sp_programs_is_program K mg) := by
  refine T.f_programs_is_program.ok sc_programs_is_program (fun vs H Q E h => (by obtain ⟨_, _, rfl, _⟩ := h; rfl)) (fun f cdv A outer s H vs Q E hr h => ⟨_, (pss_cons (ps_if (PW.pt (pw_or (pt_not (nVal (pe_callB (cIsi (K := K)) (by rfl) T.n_isinstance PyProof.Rows.boot_isinstance (pa_cons (nv 0) (pa_cons (nTy T.n_list PyProof.Rows.boot_list) pa_nil))))) (pw_or1 (nCmp oGt (pe_callB (cLen (K := K)) (by rfl) T.n_len PySem.boot_len (pa_cons (nv 0) pa_nil)) (nGlobI T.m_MOST_CODE) (nomark _))))) (pss_one (ps_ret pe_bl)) pss_nil)
      (pss_cons (ps_if (pt_not (nVal (pe_callB (cr_all rfl) (by rfl) T.n_all PyProof.Rows.boot_all (pa_cons (pe_lc (own := [("at", 1), ("row", 2)]) (g := gTup K 2 (gCons (gName 1) (gCons (gName 2) (gNil)))) (tt := tYes) rfl sc_programs_is_program.nd (pi_enum (by rfl) T.n_enumerate (pa_cons (nv 0) pa_nil)) (blkOk_by (own := [("at", 1), ("row", 2)]) (N := ["value", "at", "row"]) (sc := defScope s_programs_is_program) (by decide +kernel)) (fun _ _ _ _ _ => (pg_tup rfl (pgs_cons (pg_name (i := 1) sc_programs_is_program.nd rfl (.inl rfl) (.inr rfl)) (pgs_cons (pg_name (i := 2) sc_programs_is_program.nd rfl (.inl rfl) (.inr rfl)) pgs_nil)))) (fun _ _ _ _ _ => pts_nil) (fun _ _ _ _ _ => (nCall c_programs_is_instruction (hr.mono (by decide)) pass0 (pa_cons (nv 2) (pa_cons (nv 1) (pa_cons (pe_callB (cLen (K := K)) (by rfl) T.n_len PySem.boot_len (pa_cons (nv 0) pa_nil)) pa_nil)))))) pa_nil)))) (pss_one (ps_ret pe_bl)) pss_nil)
      (pss_one (ps_ret (pe_cmpR oLe (pe_callB (cr_sum rfl) (by rfl) T.n_sum PyProof.Rows.boot_sum (pa_cons (pe_lc (own := [("row", 2)]) (g := gName 2) rfl sc_programs_is_program.nd (piAny (K := K) (nv 0)) (blkOk_by (own := [("row", 2)]) (N := ["value", "at", "row"]) (sc := defScope s_programs_is_program) (by decide +kernel)) (fun _ _ _ _ _ => (pg_name (i := 2) sc_programs_is_program.nd rfl (.inl rfl))) (fun _ _ _ _ _ => pts_one (nCmp (oEq (K := K) hr.units) (pe_ix (ixU (K := K)) (nv 2) pe_int (fun _ _ => rfl)) pe_str (nomark _))) (fun _ _ _ _ _ => (pe_callB (cLen (K := K)) (by rfl) T.n_len PySem.boot_len (pa_cons (pe_ix (ixU (K := K)) (nv 2) pe_int (fun _ _ => rfl)) pa_nil)))) pa_nil)) (nGlobI T.m_MOST_TREE) (nomark _)))))), ?_⟩)
  obtain ⟨v, d, rfl, hd, hask, k⟩ := h
  have hz : sizeLine = 16777216 := sizeLine_eq
  cases hd with
  | non => exact ⟨false, rfl, k _ (Ex.refl _)⟩
  | bl b => exact ⟨false, rfl, k _ (Ex.refl _)⟩
  | int i => exact ⟨false, rfl, k _ (Ex.refl _)⟩
  | str s => exact ⟨false, rfl, k _ (Ex.refl _)⟩
  | tup h _ => exact ⟨_, false, sqt_ty h, rfl, k _ (Ex.refl _)⟩
  | @lst a xs ds hx ha =>
    obtain ⟨as1, as2⟩ := hask ds rfl
    have xl := DpAll.len ha
    refine ⟨_, true, sql_ty hx, rfl, _, .inl hx, ?_⟩
    refine iteD (fun hg => ?_) (fun hg => ?_)
    · have := k H (Ex.refl H)
      rw [show isProgD (.list ds) = (decide (ds.length ≤ 600) && (rowsD ds.length 0 ds && decide ((ds.map setLen).sum ≤ 200000))) from rfl, decide_eq_false (by omega), Bool.false_and] at this
      exact this
    have hle : ds.length ≤ 600 := by omega
    rw [show isProgD (.list ds) = (decide (ds.length ≤ 600) && (rowsD ds.length 0 ds && decide ((ds.map setLen).sum ≤ 200000))) from rfl, decide_eq_true hle, Bool.true_and] at k
    -- every row
    refine ⟨a, xs, rfl, hx, fun D nD => walk_enum (K := K) (a := a) (xs := xs) (fun i H' => Ex H H' ∧ H' D = some (.lst ((flagsD ds.length 0 (ds.take i)).map V.bl))) ⟨Evl.Ex.new nD, upd_same⟩ (fun i H' _ e => Evl.ex_l e.1 hx) ?_ ?_⟩
    · rintro i x H' T hx' ⟨ex, hD⟩ nT
      obtain ⟨d, hd, hxd⟩ := DpAll.get ha hx'
      have hi : i < ds.length := (List.getElem?_eq_some_iff.mp hd).1
      have e1 := Evl.Ex.new (o := .tup [.int (i : Nat), x]) nT
      have ex1 := ex.trans e1
      have hD1 := e1 _ _ hD
      refine ⟨T, _, rfl, .of upd_same, rfl, _, _, rfl, _, _, rfl, rfl, rfl, ?_⟩
      generalize upd H' T (.tup [.int (i : Nat), x]) = H1 at e1 ex1 hD1 ⊢
      refine ⟨_, .inl (Evl.ex_l ex1 hx), x, d, i, ds.length, by rw [xl], Dp.mono ex1 _ hxd, fun a b s q => as1 a b s (by rw [← q]; exact mem_of_get hd), fun es q => as2 es (by rw [← q]; exact mem_of_get hd), fun H2 e2 => ?_⟩
      have hD2 := e2 _ _ hD1
      refine ⟨_, hD2, by rw [List.length_map, flags_len, List.length_take]; omega, Evl.Ex.mut (ex1.trans e2) nD, ?_⟩
      rw [upd_same, List.take_add_one, hd]
      show some (HO.lst (_ ++ [V.bl (isRowD (i : Nat) ds.length d)])) = some (.lst ((flagsD ds.length 0 (ds.take i ++ [d])).map V.bl))
      rw [flags_snoc, List.map_append, List.length_take, Nat.min_eq_left (by omega), Nat.zero_add]
      rfl
    · rintro H1 ⟨ex, hD⟩
      rw [xl, List.take_length] at hD
      refine ⟨D, _, rfl, .of hD, ?_⟩
      rw [flags_all]
      refine iteB (fun hb => ?_) (fun hb => ?_)
      · have hb' : rowsD ds.length 0 ds = false := by
          have : (!rowsD ds.length 0 ds) = true := hb
          cases q : rowsD ds.length 0 ds with
          | false => rfl
          | true => rw [q] at this; cases this
        rw [hb'] at k
        exact k H1 ex
      have hb' : rowsD ds.length 0 ds = true := by
        have : (!rowsD ds.length 0 ds) = false := hb
        cases q : rowsD ds.length 0 ds with
        | true => rfl
        | false => rw [q] at this; cases this
      rw [hb', Bool.true_and] at k
      -- the trees together
      have hx1 := Evl.ex_l ex hx
      refine .inl ⟨⟨_, hx1⟩, fun S0 nS => lc_list (K := K) (a := a) (xs := xs) (fun i H' => H' = upd H1 S0 (.lst ((((ds.take i).map setL).flatten).map V.int))) rfl (fun i H' _ e => by rw [e]; exact Evl.ex_l (Evl.Ex.new nS) hx1) ?_ ?_⟩
      · rintro i x H' hx' rfl
        obtain ⟨d, hd, hxd⟩ := DpAll.get ha hx'
        have hi : i < ds.length := (List.getElem?_eq_some_iff.mp hd).1
        have hrow := rowsD_get hb' hd
        have e2 := Evl.Ex.new (o := .lst ((((ds.take i).map setL).flatten).map V.int)) nS
        have hxd2 := Dp.mono (ex.trans e2) _ hxd
        have step : ((ds.take (i + 1)).map setL).flatten = ((ds.take i).map setL).flatten ++ setL d := by
          rw [take_map hd, List.flatten_append, List.flatten_singleton]
        refine ⟨rfl, ?_⟩
        rcases row_form hrow with ⟨a1, t, rfl, ht⟩ | ⟨w, es, rfl, hw, hs⟩
        · cases hxd2 with
          | @tup p ys _ hp hys =>
            cases hys with
            | cons q1 q2 => cases q1 with
              | str => cases q2 with
                | cons q3 q4 => cases q4 with
                  | cons q5 q6 => cases q5 with
                    | str =>
                      cases q6
                      refine ⟨_, _, .inr hp, rfl, ?_⟩
                      refine ⟨_, _, .inr hp, rfl, by omega, _, upd_same, ?_, ?_⟩
                      · rw [List.length_map]
                        have : ∀ l : List PyData, ((l.map setL).flatten).length ≤ l.length := by
                          intro l
                          induction l with
                          | nil => exact Nat.zero_le _
                          | cons d l ih =>
                            rw [List.map_cons, List.flatten_cons, List.length_append, List.length_cons]
                            have : (setL d).length ≤ 1 := by
                              unfold setL
                              split
                              · split <;> simp
                              · simp
                            omega
                        have h2 := this (ds.take i)
                        rw [List.length_take] at h2
                        omega
                      · rw [upd_upd, step, List.map_append]
                        rfl
        · cases hxd2 with
          | @tup p ys _ hp hys =>
            cases hys with
            | cons q1 q2 => cases q1 with
              | str =>
                refine ⟨_, _, .inr hp, atI_nat (j := 0) rfl, iteS (fun q => absurd q hw) (fun _ => ?_)⟩
                show upd H1 S0 _ = _
                rw [step, hs, List.append_nil]
      · rintro H' rfl
        rw [xl, List.take_length]
        refine ⟨S0, ((ds.map setL).flatten), rfl, .of upd_same, ?_⟩
        rw [setL_sum]
        have e3 := ex.trans (Evl.Ex.new (o := .lst (((ds.map setL).flatten).map V.int)) nS)
        have := k _ e3
        have e4 : decide ((ds.map setLen).sum ≤ 200000) = decide ((((ds.map setLen).sum : Nat) : Int) ≤ 200000) := by
          by_cases q : (ds.map setLen).sum ≤ 200000
          · rw [decide_eq_true q, decide_eq_true (by omega)]
          · rw [decide_eq_false q, decide_eq_false (by omega)]
        rw [e4] at this
        exact this
end
def sp_building_checked (K : PySem.W.Frag) (mg : Str → Option Value) : Sp := fun vs H Q E => ∃ (a : Addr) (rows : List Row), vs = [.ref a] ∧ PrgAt K H a rows ∧ rows.length ≤ 100000 ∧ (∀ r ∈ rows, ∀ t, r.tree = some t → t.enc.length ≤ 10000000) ∧ (isProgD (prgD rows) = true → ∀ H', Ex H H' → Q (.ref a) H') ∧ (isProgD (prgD rows) = false → ∀ H' cls, Ex H H' → mg "TooLarge" = some cls → E cls none H')

section
variable {P : Program} {w : World} {K : PySem.W.Frag} {mg : Str → Option Value} {base : Heap}
theorem ok_building_checked (T : Txt K mg w)
    (c_programs_is_program : Cal P w K mg base CX0 3 "is_program" ["value"] (sp_programs_is_program K mg)) : Cal P w K mg base (L2.CX P w) 4 "checked" ["program"] (sp_building_checked K mg) := by
  refine T.f_building_checked.okX sc_building_checked (fun vs H Q E h => (by obtain ⟨_, _, rfl, _⟩ := h; rfl)) (fun f cdv A outer s H vs Q E hr h => ?_)
  have tk := takes_of (X := cxOf (L2.CX P w) P w K mg base ["program"] "checked" (defScope s_building_checked) f cdv A outer s H E) rfl rfl rfl rfl
  refine ⟨_, (pss_cons (ps_if (PW.pt (pw_or (nCmp oGt (pe_callB (cLen (K := K)) (by rfl) T.n_len PySem.boot_len (pa_cons (nv 0) pa_nil)) (nGlobI T.m_MOST_CODE) (nomark _)) (pw_or1 (pt_not (nVal (nCall c_programs_is_program (hr.mono (by decide)) pass0 (pa_cons (nv 0) pa_nil))))))) (pss_one (ps_raise rfl tk (nMk T.x_TooLarge))) pss_nil)
      (pss_one (ps_ret (nv 0)))), ?_⟩
  obtain ⟨a, rows, rfl, ⟨xs, hS, hP⟩, hlen, hask, k, kx⟩ := h
  have hL : rows.length = xs.length := hP.length.symm
  have hPg : PrgAt K H a rows := ⟨xs, hS, hP⟩
  refine ⟨_, .inl hS, ?_⟩
  have ep : isProgD (prgD rows) = (decide (rows.length ≤ 600) && (rowsD ((rows.map Row.d).length : Nat) 0 (rows.map Row.d) && decide (((rows.map Row.d).map setLen).sum ≤ 200000))) := by
    rw [← List.length_map (f := Row.d) (as := rows)]; rfl
  refine iteD (fun hg => ?_) (fun hg => ?_)
  · have : (600 : Int) < (xs.length : Nat) := hg
    exact fun cls hc => kx (by rw [ep, decide_eq_false (by omega)]; rfl) H cls (Ex.refl H) hc
  · refine ⟨.ref a, prgD rows, rfl, hPg.dp, prg_ask hask, fun H' e => ?_⟩
    refine iteB (fun hb => ?_) (fun hb => ?_)
    · have hb' : (!isProgD (prgD rows)) = true := hb
      exact fun cls hc => kx (by cases q : isProgD (prgD rows) with | true => rw [q] at hb'; cases hb' | false => rfl) H' cls e hc
    · have hb' : (!isProgD (prgD rows)) = false := hb
      exact k (by cases q : isProgD (prgD rows) with | false => rw [q] at hb'; cases hb' | true => rfl) H' e
end
def sp_building_constant (K : PySem.W.Frag) (_ : Str → Option Value) : Sp := fun vs H Q _ => ∃ (t : Tr), vs = [.str (S t.enc)] ∧ t.enc.length ≤ 200000 ∧ ∀ a xs H', Ex H H' → H a = none → H' a = some (.lst xs) → PrgL K H' xs [Row.set 0 t] → Q (.ref a) H'

section
variable {P : Program} {w : World} {K : PySem.W.Frag} {mg : Str → Option Value} {base : Heap}
theorem ok_building_constant (T : Txt K mg w)
    (c_building_checked : Cal P w K mg base (L2.CX P w) 4 "checked" ["program"] (sp_building_checked K mg)) : Cal P w K mg base (L2.CX P w) 5 "constant" ["tree"] (sp_building_constant K mg) := by
  refine T.f_building_constant.okX sc_building_constant (fun vs H Q E h => (by obtain ⟨_, rfl, _⟩ := h; rfl)) (fun f cdv A outer s H vs Q E hr h => ?_)
  have tk := takes_of (X := cxOf (L2.CX P w) P w K mg base ["tree"] "constant" (defScope s_building_constant) f cdv A outer s H E) rfl rfl rfl rfl
  refine ⟨_, (pss_one (ps_ret (nCall c_building_checked (hr.mono (by decide)) (passes_call tk (fun _ _ _ _ h => h)) (pa_cons (pe_lst (pa_cons (pe_tup (pa_cons pe_str (pa_cons pe_int (pa_cons (nv 0) pa_nil)))) pa_nil)) pa_nil)))), ?_⟩
  obtain ⟨t, rfl, ht, k⟩ := h
  refine ⟨by show 3 ≤ sizeLine; decide, fun q nq => ⟨by show 1 ≤ sizeLine; decide, fun a na => ?_⟩⟩
  have x1 := Evl.Ex.new (o := .tup (Row.set 0 t).vs) nq
  have x2 := Evl.Ex.new (o := .lst [.ref q]) na
  have hq := x2 _ _ (upd_same (H := H) (a := q) (o := .tup (Row.set 0 t).vs))
  have ha := upd_same (H := upd H q (.tup (Row.set 0 t).vs)) (a := a) (o := .lst [.ref q])
  have hp : isProgD (prgD [Row.set 0 t]) = true := by
    have hl : (S t.enc).length ≤ 200000 := by rw [S_len]; exact ht
    show (decide (1 ≤ 600) && (rowsD ((1 : Nat) : Int) 0 ([Row.set 0 t].map Row.d) && decide ((([Row.set 0 t].map Row.d).map setLen).sum ≤ 200000))) = true
    rw [rowsD_ok (fun i r e => ?_) (fun r hr u e => ?_)]
    · have : (([Row.set 0 t].map Row.d).map setLen).sum ≤ 200000 := by
        have := sum_le setLen 200000 ([Row.set 0 t].map Row.d) (fun d hd => by
          simp only [List.map_cons, List.map_nil, List.mem_singleton] at hd
          subst hd
          exact setLen_row _ _ (fun u e => by cases e; exact ht))
        simpa using this
      rw [decide_eq_true this]; rfl
    · rcases i with _ | i
      · cases e; intro x hx; simp [Row.regs] at hx; omega
      · simp at e
    · rw [List.mem_singleton.mp hr] at e; cases e; exact ht
  have hna : H a = none := ex_none x1 na
  refine ⟨a, [Row.set 0 t], rfl, ⟨[.ref q], .of ha, .cons ⟨q, rfl, .of hq⟩ .nil⟩, by simp, fun r hr u e => ?_, fun _ H' e' => ?_, fun e => by rw [hp] at e; cases e⟩
  · rw [List.mem_singleton.mp hr] at e
    cases e
    omega
  · exact k a [.ref q] H' (x1.trans (x2.trans e')) hna (e' _ _ ha) (.cons ⟨q, rfl, .of (e' _ _ hq)⟩ .nil)
end
def sp_programs_registers_of (K : PySem.W.Frag) (_ : Str → Option Value) : Sp := fun vs H Q _ => ∃ (p : Addr) (r : Row), vs = [.ref p] ∧ SqT K H p r.vs ∧ ∀ q H', Ex H H' → SqT K H' q (r.regs.map fun (n : Nat) => V.int (n : Int)) → Q (.ref q) H'

section
variable {P : Program} {w : World} {K : PySem.W.Frag} {mg : Str → Option Value} {base : Heap}
theorem ok_programs_registers_of (T : Txt K mg w) : Cal P w K mg base CX0 1 "registers_of" ["row"] (sp_programs_registers_of K mg) := by
  refine T.f_programs_registers_of.ok sc_programs_registers_of (fun vs H Q E h => (by obtain ⟨_, _, rfl, _⟩ := h; rfl)) (fun f cdv A outer s H vs Q E hr h => ⟨_, (pss_cons (ps_if (nCmp (oIn (K := K)) (pe_ix (ixU (K := K)) (nv 0) pe_int (fun _ _ => rfl)) (pe_tup (pa_cons pe_str (pa_cons pe_str pa_nil))) (by rfl)) (pss_one (ps_ret (pe_slice (slU (K := K)) (nv 0) (po_some pe_int) (po_some pe_int)))) pss_nil)
      (pss_one (ps_ret (pe_slice (slU (K := K)) (nv 0) (po_some pe_int) po_none)))), ?_⟩)
  obtain ⟨p, r, rfl, hp, k⟩ := h
  have full : ∀ (t : Addr) (H1 : Hp), Ex H H1 → SqT K H1 p r.vs := fun _ H1 e => Evl.ex_t e hp
  have e0 : HT.sIx r.vs.length 0 (some 1) = 1 := by
    rw [show (1 : Int) = ((1 : Nat) : Int) from rfl, HT.sIx_nat]
    cases r <;> rfl
  refine ⟨_, _, .inr hp, atI_nat (j := 0) rfl, by show 2 ≤ sizeLine; decide, fun t nt => ?_⟩
  have ex := Evl.Ex.new (o := .tup [.str ("set" : Str), .str ("jump" : Str)]) nt
  have hp1 := Evl.ex_t ex hp
  refine ⟨_, .t upd_same, rfl, rfl, ?_⟩
  generalize upd H t (.tup [.str ("set" : Str), .str ("jump" : Str)]) = H1 at ex hp1 ⊢
  refine iteB (fun hb => ?_) (fun hb => ?_)
  · refine ⟨1, rfl, 2, rfl, .inr ⟨p, _, rfl, hp1, fun w => absurd w.1 (by rw [e0]; decide), fun _ q nq => k q _ (ex.trans (Evl.Ex.new nq)) (.of ?_)⟩⟩
    rw [upd_same]
    cases r <;> first | rfl | (simp only [Row.word] at hb; exact absurd hb (by decide +kernel))
  · refine ⟨1, rfl, .inr ⟨p, _, rfl, hp1, fun w => absurd w.1 (by rw [e0]; decide), fun _ q nq => k q _ (ex.trans (Evl.Ex.new nq)) (.of ?_)⟩⟩
    rw [upd_same]
    cases r <;> first | rfl | (simp only [Row.word] at hb; exact absurd hb (by decide +kernel))
end
def sp_programs_width (K : PySem.W.Frag) (_ : Str → Option Value) : Sp := fun vs H Q _ => ∃ (a : Addr) (rows : List Row), vs = [.ref a] ∧ PrgAt K H a rows ∧ rows.length ≤ 100000 ∧ ∀ H', Ex H H' → Q (.int (wd rows : Nat)) H'

section
variable {P : Program} {w : World} {K : PySem.W.Frag} {mg : Str → Option Value} {base : Heap}
theorem ok_programs_width (T : Txt K mg w)
    (c_programs_registers_of : Cal P w K mg base CX0 1 "registers_of" ["row"] (sp_programs_registers_of K mg)) : Cal P w K mg base CX0 2 "width" ["program"] (sp_programs_width K mg) := by
  refine T.f_programs_width.ok sc_programs_width (fun vs H Q E h => (by obtain ⟨_, _, rfl, _⟩ := h; rfl)) (fun f cdv A outer s H vs Q E hr h => ⟨_, (pss_one (ps_ret (pe_callB (cr_max rfl) (by rfl) T.n_max PyProof.Rows.boot_max (pa_cons (pe_op (oAdd (K := K)) (pe_lst (pa_cons pe_int pa_nil)) (pe_lc2 (own := [("row", 1), ("part", 2)]) (vs1 := [2]) (g := gName 1) (tt := tYes) (g1 := gName 2) (tt1 := tYes) rfl sc_programs_width.nd (piAny (K := K) (nv 0)) (blkOk_by (own := [("row", 1), ("part", 2)]) (N := ["program", "row", "part"]) (sc := defScope s_programs_width) (by decide +kernel)) (by decide) (fun _ _ _ _ _ => (pg_name (i := 1) sc_programs_width.nd rfl (.inl rfl))) (fun _ _ _ _ _ => pts_nil) (fun _ _ _ _ _ => (piAny (K := K) (nCall c_programs_registers_of (hr.mono (by decide)) pass0 (pa_cons (nv 1) pa_nil)))) (fun _ _ _ _ _ => (pg_name (i := 2) sc_programs_width.nd rfl (.inl rfl))) (fun _ _ _ _ _ => pts_nil) (fun _ _ _ _ _ => (pe_op (oAdd (K := K)) pe_int (nv 2))))) pa_nil)))), ?_⟩)
  obtain ⟨a, rows, rfl, ⟨xs, hS, hP⟩, hlen, k⟩ := h
  have hz : sizeLine = 16777216 := sizeLine_eq
  let f : Nat → V := fun n => V.int (1 + (n : Int))
  refine ⟨by show 1 ≤ sizeLine; decide, fun L nL => ?_⟩
  have e1 := Evl.Ex.new (o := .lst [.int 1]) nL
  have hL : (upd H L (.lst [.int 1])) L = some (.lst [.int 1]) := upd_same
  have hS1 := Evl.ex_l e1 hS
  have hP1 := hP.mono e1
  generalize upd H L (.lst [.int 1]) = H1 at e1 hL hS1 hP1 ⊢
  refine .inl ⟨⟨xs, hS1⟩, fun D nD => walk_list (K := K) (a := a) (xs := xs) (fun i H' => Ex H1 H' ∧ H' D = some (.lst ((regsOf (rows.take i)).map f))) ⟨Evl.Ex.new nD, upd_same⟩ (fun i H' _ e => Evl.ex_l e.1 hS1) ?_ ?_⟩
  · rintro i x H' hx ⟨ex, hD⟩
    obtain ⟨r, hr, p, rfl, hp⟩ := paired_get hP1 hx
    refine ⟨rfl, p, r, rfl, Evl.ex_t ex hp, fun q H2 e2 hq => ?_⟩
    have hD2 := e2 _ _ hD
    have hrl := regsOf_len rows
    have htl : (regsOf (rows.take i)).length ≤ (regsOf rows).length - 0 := by
      have h1 := regsOf_len (rows.take i)
      unfold regsOf
      rw [List.map_take]
      have : ((rows.map Row.regs).take i).flatten.length ≤ (rows.map Row.regs).flatten.length := by
        rw [List.length_flatten, List.length_flatten, List.map_take]
        have : ∀ (l : List Nat) (n : Nat), (l.take n).sum ≤ l.sum := by
          intro l
          induction l with
          | nil => intro n; simp
          | cons x l ih => intro n; cases n with
            | zero => simp
            | succ n => have := ih n; simp only [List.take_succ_cons, List.sum_cons]; omega
        exact this _ _
      omega
    refine .inr ⟨⟨_, hq⟩, walk_tup (K := K) (a := q) (xs := r.regs.map fun (n : Nat) => V.int (n : Int)) (fun j H3 => Kp D H2 H3 ∧ H3 D = some (.lst (((regsOf (rows.take i)) ++ r.regs.take j).map f))) ⟨Kp.refl _ _, by rw [List.take_zero, List.append_nil]; exact hD2⟩ (fun j H3 _ e => e.1.t hD2 hq) ?_ ?_⟩
    · rintro j y H3 hy ⟨kp, hD3⟩
      obtain ⟨n, hn, rfl⟩ := map_get hy
      have h3 := regs_le r
      refine ⟨rfl, _, hD3, ?_, kp.upd, ?_⟩
      · rw [List.length_map, List.length_append, List.length_take]; omega
      · rw [upd_same, List.take_add_one, hn]
        simp only [List.map_append, List.append_assoc]
        rfl
    · rintro H3 ⟨kp, hD3⟩
      rw [List.length_map, List.take_length] at hD3
      refine ⟨Kp.exx (ex.trans e2) kp nD, ?_⟩
      rw [regsOf_take hr]
      exact hD3
  · rintro H2 ⟨ex, hD⟩
    have hl := hP.length
    rw [hl, List.take_length] at hD
    have hrl := regsOf_len rows
    refine .inl ⟨L, D, _, _, rfl, rfl, ex _ _ hL, hD, by rw [List.length_map]; show 1 + _ ≤ _; omega, fun R nR => ?_⟩
    refine ⟨R, (1 : Int) :: (regsOf rows).map (fun (r : Nat) => 1 + (r : Int)), rfl, .of (by rw [upd_same, List.map_cons, List.map_map]; rfl), by rw [List.length_cons]; omega, fun m hm hg => ?_⟩
    rw [wd_uniq hm hg]
    exact k _ (e1.trans (ex.trans (Evl.Ex.new nR)))
end
def sp_building_cleaning (K : PySem.W.Frag) (_ : Str → Option Value) : Sp := fun vs H Q _ => ∃ (a : Addr) (rows : List Row), vs = [.ref a] ∧ PrgAt K H a rows ∧ rows.length ≤ 100000 ∧ wd rows ≤ 1000 ∧ ∀ b xs H', Ex H H' → H b = none → H' b = some (.lst xs) → PrgL K H' xs (clean (wd rows)) → Q (.ref b) H'

section
variable {P : Program} {w : World} {K : PySem.W.Frag} {mg : Str → Option Value} {base : Heap}
theorem ok_building_cleaning (T : Txt K mg w)
    (c_programs_width : Cal P w K mg base CX0 2 "width" ["program"] (sp_programs_width K mg)) : Cal P w K mg base CX0 3 "cleaning" ["program"] (sp_building_cleaning K mg) := by
  refine T.f_building_cleaning.ok sc_building_cleaning (fun vs H Q E h => (by obtain ⟨_, _, rfl, _⟩ := h; rfl)) (fun f cdv A outer s H vs Q E hr h => ⟨_, (pss_one (ps_ret (pe_lc (own := [("k", 1)]) (g := gName 1) (tt := tYes) rfl sc_building_cleaning.nd (pi_range2 (by rfl) T.n_range (pa_cons pe_int (pa_cons (nCall c_programs_width (hr.mono (by decide)) pass0 (pa_cons (nv 0) pa_nil)) pa_nil))) (blkOk_by (own := [("k", 1)]) (N := ["program", "k"]) (sc := defScope s_building_cleaning) (by decide +kernel)) (fun _ _ _ _ _ => (pg_name (i := 1) sc_building_cleaning.nd rfl (.inl rfl))) (fun _ _ _ _ _ => pts_nil) (fun _ _ _ _ _ => (pe_tup (pa_cons pe_str (pa_cons (nv 1) (pa_cons (nGlobS T.m_LEAF) pa_nil)))))))), ?_⟩)
  obtain ⟨a, rows, rfl, hP, hlen, hw, k⟩ := h
  have hz : sizeLine = 16777216 := sizeLine_eq
  refine ⟨a, rows, rfl, hP, hlen, fun H1 e1 => ?_⟩
  obtain ⟨m, hm⟩ : ∃ m : Nat, wd rows = m + 1 := by
    have := (foldl_max_ge (regsOf rows) 1).1
    refine ⟨wd rows - 1, ?_⟩
    unfold wd
    omega
  have em : ((m + 1 : Nat) : Int) - 1 = (m : Nat) := by omega
  rw [hm] at k ⊢
  have hna : ∀ D, H1 D = none → H D = none := fun D h => ex_none e1 h
  refine ⟨1, ((m + 1 : Nat) : Int), rfl, by omega, fun D nD => ?_⟩
  rw [show (((m + 1 : Nat) : Int) - 1).toNat = m by omega]
  refine lc_range (lo := 1) (n := m) (fun i H' => Ex H1 H' ∧ ∃ xs, H' D = some (.lst xs) ∧ Paired (fun v r => ∃ q, v = .ref q ∧ q ≠ D ∧ H' q = some (.tup (Row.vs r))) xs ((clean (m + 1)).take i)) ⟨Evl.Ex.new nD, [], upd_same, .nil⟩ ?_ ?_
  · rintro i H' hi ⟨ex, xs, hD, hP⟩
    have hi' : i < m := hi
    have cl : (clean (m + 1)).length = m := by unfold clean; rw [List.length_map, List.length_range]; omega
    have hg : (clean (m + 1))[i]? = some (Row.set (i + 1) .l) := by
      unfold clean
      rw [List.getElem?_map, List.getElem?_range (by omega)]
      rfl
    have xl := hP.length
    rw [List.length_take] at xl
    refine ⟨rfl, by show 3 ≤ sizeLine; decide, fun q nq => ?_⟩
    have nqD : q ≠ D := fun e => by rw [e, hD] at nq; cases nq
    have x1 := Evl.Ex.new (o := .tup [.str ("set" : Str), .int (1 + (i : Int)), .str ("0" : Str)]) nq
    have ev : [V.str ("set" : Str), .int (1 + (i : Int)), .str ("0" : Str)] = (Row.set (i + 1) .l).vs := by
      show _ = [V.str ("set" : Str), .int ((i + 1 : Nat) : Int), .str (S [48])]
      rw [show ((i + 1 : Nat) : Int) = 1 + (i : Int) by omega]
      rfl
    refine ⟨xs, x1 _ _ hD, by omega, Evl.Ex.mut (ex.trans x1) nD, _, upd_same, ?_⟩
    have ht : (clean (m + 1)).take (i + 1) = (clean (m + 1)).take i ++ [Row.set (i + 1) .l] := by rw [List.take_add_one, hg]; rfl
    rw [ht]
    refine paired_app (Paired.mapP hP fun v r h => ?_) (.cons ⟨q, rfl, nqD, ?_⟩ .nil)
    · obtain ⟨p, h1, h2, h3⟩ := h
      exact ⟨p, h1, h2, by rw [upd_ne h2]; exact x1 _ _ h3⟩
    · rw [upd_ne nqD, ← ev]
      exact upd_same
  · rintro H' ⟨ex, xs, hD, hP⟩
    have cl : (clean (m + 1)).length = m := by unfold clean; rw [List.length_map, List.length_range]; omega
    rw [List.take_of_length_le (by omega)] at hP
    refine k D xs H' (e1.trans ex) (hna D nD) hD (Paired.mapP hP fun v r h => ?_)
    obtain ⟨p, h1, h2, h3⟩ := h
    exact ⟨p, h1, .of h3⟩
end
def sp_building_widest (K : PySem.W.Frag) (_ : Str → Option Value) : Sp := fun vs H Q _ => ∃ (a : Addr) (ps : List V) (progs : List (List Row)), vs = [.ref a] ∧ SqL K H a ps ∧ Paired (fun v rows => ∃ q, v = .ref q ∧ PrgAt K H q rows) ps progs ∧ progs.length ≤ 1000 ∧ (∀ rows ∈ progs, rows.length ≤ 100000 ∧ wd rows ≤ 16) ∧ ∀ (m : Nat) H', Ex H H' → (∀ rows ∈ progs, wd rows ≤ m) → 1 ≤ m → m ≤ 16 → (m = 1 ∨ ∃ rows ∈ progs, m = wd rows) → Q (.int m) H'

section
variable {P : Program} {w : World} {K : PySem.W.Frag} {mg : Str → Option Value} {base : Heap}
theorem ok_building_widest (T : Txt K mg w)
    (c_programs_width : Cal P w K mg base CX0 2 "width" ["program"] (sp_programs_width K mg)) : Cal P w K mg base (L2.CX P w) 3 "widest" ["programs"] (sp_building_widest K mg) := by
  refine T.f_building_widest.okX sc_building_widest (fun vs H Q E h => (by obtain ⟨_, _, _, rfl, _⟩ := h; rfl)) (fun f cdv A outer s H vs Q E hr h => ?_)
  have tk := takes_of (X := cxOf (L2.CX P w) P w K mg base ["programs", "found", "program"] "widest" (defScope s_building_widest) f cdv A outer s H E) rfl rfl rfl rfl
  refine ⟨_, (pss_cons (ps_set (i := 1) sc_building_widest.nd rfl (.inl rfl) (pe_callB (cr_max rfl) (by rfl) T.n_max PyProof.Rows.boot_max (pa_cons (pe_op (oAdd (K := K)) (pe_lst (pa_cons pe_int pa_nil)) (pe_lc (own := [("program", 2)]) (g := gName 2) (tt := tYes) rfl sc_building_widest.nd (piAny (K := K) (nv 0)) (blkOk_by (own := [("program", 2)]) (N := ["programs", "found", "program"]) (sc := defScope s_building_widest) (by decide +kernel)) (fun _ _ _ _ _ => (pg_name (i := 2) sc_building_widest.nd rfl (.inl rfl))) (fun _ _ _ _ _ => pts_nil) (fun _ _ _ _ _ => (nCall c_programs_width (hr.mono (by decide)) pass0 (pa_cons (nv 2) pa_nil))))) pa_nil)))
      (pss_cons (ps_if (nCmp oGt (nv 1) (nGlobI T.m_MOST_WIDTH) (nomark _)) (pss_one (ps_raise rfl tk (nMk T.x_TooWide))) pss_nil)
      (pss_one (ps_ret (nv 1))))), ?_⟩
  obtain ⟨a, ps, progs, rfl, hS, hP, hlen, hw, k⟩ := h
  have hz : sizeLine = 16777216 := sizeLine_eq
  have hpl := hP.length
  refine ⟨by show 1 ≤ sizeLine; decide, fun L nL => ?_⟩
  have e1 := Evl.Ex.new (o := .lst [.int 1]) nL
  have hL : (upd H L (.lst [.int 1])) L = some (.lst [.int 1]) := upd_same
  generalize upd H L (.lst [.int 1]) = H1 at e1 hL ⊢
  have hS1 := Evl.ex_l e1 hS
  let f : List Row → V := fun rows => V.int ((wd rows : Nat) : Int)
  refine .inl ⟨⟨ps, hS1⟩, fun D nD => lc_list (K := K) (a := a) (xs := ps) (fun i H' => Ex H1 H' ∧ H' D = some (.lst ((progs.take i).map f))) ⟨Evl.Ex.new nD, upd_same⟩ (fun i H' _ e => Evl.ex_l e.1 hS1) ?_ ?_⟩
  · rintro i x H' hx ⟨ex, hD⟩
    obtain ⟨rows, hr, q, rfl, hq⟩ := paired_get hP hx
    obtain ⟨h1, h2⟩ := hw rows (mem_of_get hr)
    refine ⟨rfl, q, rows, rfl, (hq.mono e1).mono ex, h1, fun H2 e2 => ?_⟩
    have hD2 := e2 _ _ hD
    refine ⟨_, hD2, by rw [List.length_map, List.length_take]; omega, Evl.Ex.mut (ex.trans e2) nD, ?_⟩
    rw [upd_same, take_map hr]
  · rintro H2 ⟨ex, hD⟩
    rw [hpl, List.take_length] at hD
    refine .inl ⟨L, D, _, _, rfl, rfl, ex _ _ hL, hD, by rw [List.length_map]; show 1 + _ ≤ _; omega, fun R nR => ?_⟩
    refine ⟨R, (1 : Int) :: progs.map (fun rows => ((wd rows : Nat) : Int)), rfl, .of (by rw [upd_same, List.map_cons, List.map_map]; rfl), by rw [List.length_cons, List.length_map]; omega, fun m hm hg => ?_⟩
    have h16 : m ≤ 16 := by
      rcases List.mem_cons.mp hm with h | h
      · omega
      · obtain ⟨rows, hr, e⟩ := List.mem_map.mp h
        have := (hw rows hr).2
        omega
    have h1 : 1 ≤ m := hg 1 List.mem_cons_self
    obtain ⟨m, rfl⟩ := Int.eq_ofNat_of_zero_le (by omega : 0 ≤ m)
    refine iteD (fun q => absurd q (by omega)) (fun _ => ?_)
    refine k m _ (e1.trans (ex.trans (Evl.Ex.new nR))) (fun rows hr => ?_) (by omega) (by omega) ?_
    · have := hg ((wd rows : Nat) : Int) (List.mem_cons_of_mem _ (List.mem_map.mpr ⟨rows, hr, rfl⟩))
      omega
    · rcases List.mem_cons.mp hm with h | h
      · left; omega
      · obtain ⟨rows, hr, e⟩ := List.mem_map.mp h
        right; exact ⟨rows, hr, by omega⟩
end
def sp_building_chain (K : PySem.W.Frag) (_ : Str → Option Value) : Sp := fun vs H Q _ => ∃ (a : Addr) (ps : List V) (progs : List (List Row)), vs = [.ref a] ∧ SqL K H a ps ∧ Progs K H ps progs ∧ progs.length ≤ 100 ∧ (∀ rows ∈ progs, rows.length ≤ 100 ∧ wd rows ≤ 16) ∧ isProgD (prgD (chainR 0 progs)) = true ∧ (∀ r ∈ chainR 0 progs, ∀ t, r.tree = some t → t.enc.length ≤ 10000000) ∧ ∀ b xs H', Ex H H' → H b = none → H' b = some (.lst xs) → PrgL K H' xs (chainR 0 progs) → Q (.ref b) H'

section
variable {P : Program} {w : World} {K : PySem.W.Frag} {mg : Str → Option Value} {base : Heap}
theorem ok_building_chain (T : Txt K mg w)
    (c_building_checked : Cal P w K mg base (L2.CX P w) 4 "checked" ["program"] (sp_building_checked K mg))
    (c_building_cleaning : Cal P w K mg base CX0 3 "cleaning" ["program"] (sp_building_cleaning K mg))
    (c_building_widest : Cal P w K mg base (L2.CX P w) 3 "widest" ["programs"] (sp_building_widest K mg)) : Cal P w K mg base (L2.CX P w) 5 "chain" ["programs"] (sp_building_chain K mg) := by
  refine T.f_building_chain.okX sc_building_chain (fun vs H Q E h => (by obtain ⟨_, _, _, rfl, _⟩ := h; rfl)) (fun f cdv A outer s H vs Q E hr h => ?_)
  have tk := takes_of (X := cxOf (L2.CX P w) P w K mg base ["programs", "found", "at", "program"] "chain" (defScope s_building_chain) f cdv A outer s H E) rfl rfl rfl rfl
  refine ⟨_, (pss_cons (ps_expr (nCall c_building_widest (hr.mono (by decide)) (passes_call tk (fun _ _ _ _ h => h)) (pa_cons (nv 0) pa_nil)))
      (pss_cons (ps_set (i := 1) sc_building_chain.nd rfl (.inl rfl) (pe_lst pa_nil))
      (pss_cons (ps_for (passes_of rfl) rfl (pi_enum (by rfl) T.n_enumerate (pa_cons (nv 0) pa_nil)) (pg_tup rfl (pgs_cons (pg_name (i := 2) sc_building_chain.nd rfl (.inl rfl)) (pgs_cons (pg_name (i := 3) sc_building_chain.nd rfl (.inl rfl)) pgs_nil))) (pss_cons (ps_if (nCmp oGt (nv 2) pe_int (nomark _)) (pss_one (ps_set (i := 1) sc_building_chain.nd rfl (.inl rfl) (pe_op (oAdd (K := K)) (nv 1) (nCall c_building_cleaning (hr.mono (by decide)) pass0 (pa_cons (nv 3) pa_nil))))) pss_nil)
      (pss_one (ps_set (i := 1) sc_building_chain.nd rfl (.inl rfl) (pe_op (oAdd (K := K)) (nv 1) (nv 3))))))
      (pss_one (ps_ret (nCall c_building_checked (hr.mono (by decide)) (passes_call tk (fun _ _ _ _ h => h)) (pa_cons (nv 1) pa_nil))))))), ?_⟩
  obtain ⟨a, ps, progs, rfl, hS, hP, hlen, hw, hok, hask, k⟩ := h
  have hz : sizeLine = 16777216 := sizeLine_eq
  have hpl := hP.length
  refine ⟨a, ps, progs, rfl, hS, Paired.mapP hP fun _ _ ⟨q, xs, h1, h2, h3⟩ => ⟨q, h1, xs, .of h2, h3⟩, by omega, fun rows hr => ⟨by have := (hw rows hr).1; omega, (hw rows hr).2⟩, fun m H1 e1 _ _ _ _ => ?_⟩
  refine ⟨by show 0 ≤ sizeLine; decide, fun F nF => ?_⟩
  have hF := upd_same (H := H1) (a := F) (o := .lst [])
  have x0 := Evl.Ex.new (o := .lst []) nF
  have nF0 := ex_none e1 nF
  have e0 := e1.trans x0
  generalize upd H1 F (.lst []) = H2 at hF x0 e0 ⊢
  have hS2 := Evl.ex_l e0 hS
  have hP2 := Progs.mono e0 hP
  have hll : ∀ i, (chainR 0 (progs.take i)).length ≤ 200 * i := fun i => by
    have := chainR_len (progs.take i) 0 fun r hr => hw r (List.mem_of_mem_take hr)
    rw [List.length_take] at this
    omega
  refine ⟨a, ps, rfl, hS2, for_enumS (K := K) (a := a) (xs := ps) (fun i σ' H' => ∃ (G : Addr) (xs : List V) (x2 x3 : Option V), σ' = [some (.ref a), some (.ref G), x2, x3] ∧ H G = none ∧ Ex H2 H' ∧ H' G = some (.lst xs) ∧ PrgL K H' xs (chainR 0 (progs.take i)))
    ⟨F, [], none, none, rfl, nF0, Ex.refl _, hF, .nil⟩ (fun i σ' H' _ e => by obtain ⟨G, xs, x2, x3, _, _, e, _⟩ := e; exact Evl.ex_l e hS2) ?_ ?_⟩
  · rintro i x σ' H' T hx ⟨G, xs, x2, x3, rfl, nG, ex, hG, hPG⟩ nT
    obtain ⟨rows, hr, q, us, rfl, hq, hqP⟩ := paired_get hP2 hx
    have x1 := Evl.Ex.new (o := .tup [.int (i : Nat), .ref q]) nT
    obtain ⟨hw1, hw2⟩ := hw rows (mem_of_get hr)
    have hi : i < progs.length := (List.getElem?_eq_some_iff.mp hr).1
    have hG1 := x1 _ _ hG
    have hPG1 := PrgL.mono x1 hPG
    have hq1 := x1 _ _ (ex _ _ hq)
    have hqP1 := PrgL.mono (ex.trans x1) hqP
    have hul := hqP.length
    have hcl := hll i
    have hxl := hPG.length
    have ht : chainR 0 (progs.take (i + 1)) = chainR 0 (progs.take i) ++ link i rows := by
      rw [List.take_add_one, hr]
      show chainR 0 (progs.take i ++ [rows]) = _
      rw [chainR_snoc, List.length_take, Nat.min_eq_left (by omega), Nat.zero_add]
    rw [ht]
    refine ⟨T, _, rfl, .of upd_same, rfl, _, _, rfl, _, _, rfl, rfl, ?_⟩
    generalize upd H' T (.tup [.int (i : Nat), .ref q]) = H3 at x1 hG1 hPG1 hq1 hqP1 ⊢
    refine iteD (fun hg => ?_) (fun hg => ?_)
    · have hi0 : ¬ i = 0 := by
        have : (0 : Int) < (i : Nat) := hg
        omega
      rw [link, if_neg hi0]
      refine ⟨q, rows, rfl, ⟨us, .of hq1, hqP1⟩, by omega, by omega, fun b ys H4 e4 nb hb hPb => ?_⟩
      have hyl := hPb.length
      have hcl2 : (clean (wd rows)).length ≤ 16 := by unfold clean; rw [List.length_map, List.length_range]; omega
      refine .inl ⟨G, b, _, ys, rfl, rfl, e4 _ _ hG1, hb, by omega, fun M nM => ?_⟩
      have x5 := Evl.Ex.new (o := .lst (xs ++ ys)) nM
      refine .inl ⟨M, q, _, us, rfl, rfl, upd_same, x5 _ _ (e4 _ _ hq1), by rw [List.length_append]; omega, fun N nN => ?_⟩
      have x6 := Evl.Ex.new (o := .lst (xs ++ ys ++ us)) nN
      have eA := e4.trans (x5.trans x6)
      have nN0 : H N = none := ex_none (e0.trans (ex.trans (x1.trans (e4.trans x5)))) nN
      refine ⟨N, _, _, _, rfl, nN0, ex.trans (x1.trans eA), upd_same, ?_⟩
      rw [← List.append_assoc]
      exact paired_app (paired_app (PrgL.mono eA hPG1) (PrgL.mono (x5.trans x6) hPb)) (PrgL.mono eA hqP1)
    · have hi0 : i = 0 := by
        have : ¬ (0 : Int) < (i : Nat) := hg
        omega
      rw [link, if_pos hi0]
      refine .inl ⟨G, q, _, us, rfl, rfl, hG1, hq1, by omega, fun N nN => ?_⟩
      have x6 := Evl.Ex.new (o := .lst (xs ++ us)) nN
      have nN0 : H N = none := ex_none (e0.trans (ex.trans x1)) nN
      refine ⟨N, _, _, _, rfl, nN0, ex.trans (x1.trans x6), upd_same, ?_⟩
      exact paired_app (PrgL.mono x6 hPG1) (PrgL.mono x6 hqP1)
  · rintro σ' H' ⟨G, xs, x2, x3, rfl, nG, ex, hG, hPG⟩
    rw [hpl, List.take_length] at hPG
    refine ⟨G, chainR 0 progs, rfl, ⟨xs, .of hG, hPG⟩, ?_, hask, fun _ H3 e3 => ?_, fun e => by rw [hok] at e; cases e⟩
    · have := hll progs.length
      rw [List.take_length] at this
      omega
    · exact k G xs H3 (e0.trans (ex.trans e3)) nG (e3 _ _ hG) (PrgL.mono e3 hPG)
end
theorem wd_take {rows : List Row} {i : Nat} {r : Row} (h : rows[i]? = some r) : wd (rows.take (i + 1)) = wdF (wd (rows.take i)) r.regs := by
  unfold wd wdF
  rw [regsOf_take h, List.foldl_append]
def sp_L_width (K : PySem.W.Frag) (_ : Str → Option Value) : Sp := fun vs H Q _ => ∃ (P : Addr) (xs : List V) (rows : List Row), vs = [.ref P] ∧ H P = some (.lst xs) ∧ PrgL K H xs rows ∧ rows.length ≤ 100000 ∧ ∀ H', Ex H H' → Q (.int (wd rows : Nat)) H'

section
variable {P : Program} {w : World} {K : PySem.W.Frag} {mg : Str → Option Value} {base : Heap}
theorem ok_L_width (T : Txt K mg w) : Cal P w K mg base CX0 1 "_law_width" ["_law_program_here"] (sp_L_width K mg) := by
  refine T.f_L_width.ok sc_L_width (fun vs H Q E h => (by obtain ⟨_, _, _, rfl, _⟩ := h; rfl)) (fun f cdv A outer s H vs Q E hr h => ⟨_, (pss_cons (ps_set (i := 1) sc_L_width.nd rfl (.inl rfl) pe_int)
      (pss_cons (ps_for PassesOwn.never rfl (piAny (K := K) (nv 0)) (pg_name (i := 2) sc_L_width.nd rfl (.inl rfl)) (pss_cons (ps_set (i := 1) sc_L_width.nd rfl (.inl rfl) (pe_callB (call_max2 rfl) (by rfl) T.n_max PyProof.Rows.boot_max (pa_cons (nv 1) (pa_cons (pe_op (oAdd (K := K)) (pe_ix (ixU (K := K)) (nv 2) pe_int (fun _ _ => rfl)) pe_int) pa_nil))))
      (pss_one (ps_if (nCmp (oNotIn (K := K)) (pe_ix (ixU (K := K)) (nv 2) pe_int (fun _ _ => rfl)) (pe_tup (pa_cons pe_str (pa_cons pe_str pa_nil))) (by rfl)) (pss_one (ps_set (i := 1) sc_L_width.nd rfl (.inl rfl) (pe_callB (cr_max rfl) (by rfl) T.n_max PyProof.Rows.boot_max (pa_cons (pe_op (oAdd (K := K)) (pe_lst (pa_cons (nv 1) pa_nil)) (pe_lc (own := [("_law_part", 3)]) (g := gName 3) (tt := tYes) rfl sc_L_width.nd (piAny (K := K) (pe_slice (slU (K := K)) (nv 2) (po_some pe_int) po_none)) (blkOk_by (own := [("_law_part", 3)]) (N := ["_law_program_here", "_law_found", "_law_row", "_law_part"]) (sc := defScope s_L_width) (by decide +kernel)) (fun _ _ _ _ _ => (pg_name (i := 3) sc_L_width.nd rfl (.inl rfl))) (fun _ _ _ _ _ => pts_nil) (fun _ _ _ _ _ => (pe_op (oAdd (K := K)) (nv 3) pe_int)))) pa_nil)))) pss_nil))))
      (pss_one (ps_ret (nv 1))))), ?_⟩)
  obtain ⟨P, xs, rows, rfl, hP, hL, hl, k⟩ := h
  have hz : sizeLine = 16777216 := sizeLine_eq
  have hxl := hL.length
  refine .inl ⟨⟨_, .of hP⟩, for_list (K := K) (a := P) (xs := xs) (fun i σ' H' => Ex H H' ∧ ∃ x4 x5 : Option V, σ' = [some (.ref P), some (.int (wd (rows.take i) : Nat)), x4, x5]) ⟨Ex.refl _, none, none, rfl⟩ (fun i σ' H' _ e => .of (e.1 _ _ hP)) ?_ ?_⟩
  · rintro i x σ' H' hx ⟨ex, x4, x5, rfl⟩
    obtain ⟨r, hr, p, rfl, hp⟩ := paired_get hL hx
    have hp1 := Evl.ex_t ex hp
    rw [wd_take hr]
    obtain ⟨r0, rest, hre, h1⟩ : ∃ (r0 : Nat) (rest : List Nat), r.regs = r0 :: rest ∧ r.vs[1]? = some (.int r0) := by cases r <;> exact ⟨_, _, rfl, rfl⟩
    refine ⟨_, _, .inr hp1, atI_nat (j := 1) h1, _, _, rfl, ?_⟩
    have emax : (if (r0 : Int) + 1 > ((wd (rows.take i) : Nat) : Int) then (r0 : Int) + 1 else ((wd (rows.take i) : Nat) : Int)) = ((max (wd (rows.take i)) (r0 + 1) : Nat) : Int) := by
      split <;> omega
    rw [emax]
    refine ⟨_, _, .inr hp1, atI_nat (j := 0) rfl, by show 2 ≤ sizeLine; decide, fun t nt => ⟨_, .t upd_same, rfl, rfl, ?_⟩⟩
    have y1 := Evl.Ex.new (o := .tup [.str ("set" : Str), .str ("jump" : Str)]) nt
    have hp2 := Evl.ex_t y1 hp1
    generalize upd H' t (.tup [.str ("set" : Str), .str ("jump" : Str)]) = H4 at y1 hp2 ⊢
    refine iteB (fun hb => ?_) (fun hb => ?_)
    · have hb' : (!inV (.str r.word) [.str ("set" : Str), .str ("jump" : Str)]) = true := hb
      have hd : r.vs.drop 2 = rest.map (fun (n : Nat) => V.int (n : Int)) := by
        cases r with
        | set _ _ => simp only [Row.word] at hb'; exact absurd hb' (by decide +kernel)
        | jump _ _ => simp only [Row.word] at hb'; exact absurd hb' (by decide +kernel)
        | move _ _ => injection hre with _ h; subst h; rfl
        | cons _ _ _ => injection hre with _ h; subst h; rfl
        | head _ _ => injection hre with _ h; subst h; rfl
        | tail _ _ => injection hre with _ h; subst h; rfl
      have hrl : rest.length ≤ 2 := by
        have := regs_le r
        rw [hre, List.length_cons] at this
        omega
      have e0 : HT.sIx r.vs.length 0 (some 2) = 2 := by
        rw [show (2 : Int) = ((2 : Nat) : Int) from rfl, HT.sIx_nat]
        cases r <;> rfl
      have ec : cutV r.vs (some 2) none = rest.map (fun (n : Nat) => V.int (n : Int)) := by
        unfold cutV
        rw [e0, HT.sIx_none, ← hd, ← List.length_drop, List.take_length]
      refine ⟨by show 1 ≤ sizeLine; decide, fun L nL => ⟨2, rfl, .inr ⟨p, _, rfl, Evl.ex_t (Evl.Ex.new nL) hp2, fun w => absurd w.1 (by rw [e0]; decide), fun _ q nq => ?_⟩⟩⟩
      rw [ec]
      have y2 := Evl.Ex.new (o := .lst [.int ((max (wd (rows.take i)) (r0 + 1) : Nat) : Int)]) nL
      have y3 := Evl.Ex.new (o := .tup (rest.map (fun (n : Nat) => V.int (n : Int)))) nq
      have hL5 := y3 _ _ (upd_same (H := H4) (a := L) (o := .lst [.int ((max (wd (rows.take i)) (r0 + 1) : Nat) : Int)]))
      have hq5 : (upd (upd H4 L (.lst [.int ((max (wd (rows.take i)) (r0 + 1) : Nat) : Int)])) q (.tup (rest.map (fun (n : Nat) => V.int (n : Int))))) q = some (.tup (rest.map (fun (n : Nat) => V.int (n : Int)))) := upd_same
      generalize upd (upd H4 L (.lst [.int ((max (wd (rows.take i)) (r0 + 1) : Nat) : Int)])) q (.tup (rest.map (fun (n : Nat) => V.int (n : Int)))) = H5 at y3 hL5 hq5 ⊢
      refine .inr ⟨⟨_, .of hq5⟩, fun D nD => lc_tup (K := K) (a := q) (xs := rest.map (fun (n : Nat) => V.int (n : Int))) (fun j H6 => H6 = upd H5 D (.lst ((rest.take j).map fun (n : Nat) => V.int ((n : Int) + 1)))) rfl (fun j H6 _ e => by rw [e]; exact .of ((Evl.Ex.new nD) _ _ hq5)) ?_ ?_⟩
      · rintro j y H6 hy rfl
        obtain ⟨n, hn, rfl⟩ := map_get hy
        refine ⟨rfl, _, upd_same, by rw [List.length_map, List.length_take]; omega, ?_⟩
        rw [upd_upd, take_map hn]
      · rintro H6 rfl
        rw [List.length_map, List.take_length]
        have y4 := Evl.Ex.new (o := .lst (rest.map fun (n : Nat) => V.int ((n : Int) + 1))) nD
        refine .inl ⟨L, D, _, _, rfl, rfl, y4 _ _ hL5, upd_same, by rw [List.length_map]; show 1 + _ ≤ _; omega, fun M nM => ?_⟩
        refine ⟨M, ((max (wd (rows.take i)) (r0 + 1) : Nat) : Int) :: rest.map (fun (n : Nat) => (n : Int) + 1), rfl, .of (by rw [upd_same, List.map_cons, List.map_map]; rfl), by rw [List.length_cons]; omega, fun m hm hg => ?_⟩
        refine ⟨ex.trans (y1.trans (y2.trans (y3.trans (y4.trans (Evl.Ex.new nM))))), some (.ref p), x5, ?_⟩
        rw [wdF_uniq hm hg, hre]
        rfl
    · have hb' : (!inV (.str r.word) [.str ("set" : Str), .str ("jump" : Str)]) = false := hb
      have hrest : rest = [] := by
        cases r with
        | set _ _ => injection hre with _ h; exact h.symm
        | jump _ _ => injection hre with _ h; exact h.symm
        | move _ _ => simp only [Row.word] at hb'; exact absurd hb' (by decide +kernel)
        | cons _ _ _ => simp only [Row.word] at hb'; exact absurd hb' (by decide +kernel)
        | head _ _ => simp only [Row.word] at hb'; exact absurd hb' (by decide +kernel)
        | tail _ _ => simp only [Row.word] at hb'; exact absurd hb' (by decide +kernel)
      refine ⟨ex.trans y1, some (.ref p), x5, ?_⟩
      rw [hre, hrest]
      rfl
  · rintro σ' H4 ⟨ex, x4, x5, rfl⟩
    rw [hxl, List.take_length]
    exact k _ ex
end
def sp_L_cleaning (K : PySem.W.Frag) (_ : Str → Option Value) : Sp := fun vs H Q _ => ∃ (a : Addr) (us : List V) (rows : List Row), vs = [.ref a] ∧ H a = some (.lst us) ∧ PrgL K H us rows ∧ rows.length ≤ 100000 ∧ wd rows ≤ 1000 ∧ ∀ b xs H', Ex H H' → H b = none → H' b = some (.lst xs) → PrgL K H' xs (clean (wd rows)) → Q (.ref b) H'

section
variable {P : Program} {w : World} {K : PySem.W.Frag} {mg : Str → Option Value} {base : Heap}
theorem ok_L_cleaning (T : Txt K mg w)
    (c_L_width : Cal P w K mg base CX0 1 "_law_width" ["_law_program_here"] (sp_L_width K mg)) : Cal P w K mg base CX0 2 "_law_cleaning" ["_law_program_here"] (sp_L_cleaning K mg) := by
  refine T.f_L_cleaning.ok sc_L_cleaning (fun vs H Q E h => (by obtain ⟨_, _, _, rfl, _⟩ := h; rfl)) (fun f cdv A outer s H vs Q E hr h => ⟨_, (pss_one (ps_ret (pe_lc (own := [("_law_k", 1)]) (g := gName 1) (tt := tYes) rfl sc_L_cleaning.nd (pi_range1 (by rfl) T.n_range (pa_cons (pe_op oSub (nCall c_L_width (hr.mono (by decide)) pass0 (pa_cons (nv 0) pa_nil)) pe_int) pa_nil)) (blkOk_by (own := [("_law_k", 1)]) (N := ["_law_program_here", "_law_k"]) (sc := defScope s_L_cleaning) (by decide +kernel)) (fun _ _ _ _ _ => (pg_name (i := 1) sc_L_cleaning.nd rfl (.inl rfl))) (fun _ _ _ _ _ => pts_nil) (fun _ _ _ _ _ => (pe_tup (pa_cons pe_str (pa_cons (pe_op (oAdd (K := K)) (nv 1) pe_int) (pa_cons pe_str pa_nil)))))))), ?_⟩)
  obtain ⟨a, us, rows, rfl, hU, hR, hlen, hw, k⟩ := h
  have hz : sizeLine = 16777216 := sizeLine_eq
  refine ⟨a, us, rows, rfl, hU, hR, hlen, fun H1 e1 => ?_⟩
  obtain ⟨m, hm⟩ : ∃ m : Nat, wd rows = m + 1 := by
    have := (foldl_max_ge (regsOf rows) 1).1
    refine ⟨wd rows - 1, ?_⟩
    unfold wd
    omega
  have em : ((m + 1 : Nat) : Int) - 1 = (m : Nat) := by omega
  rw [hm] at k ⊢
  have hna : ∀ D, H1 D = none → H D = none := fun D h => ex_none e1 h
  refine ⟨((m + 1 : Nat) : Int) - 1, rfl, by omega, by omega, fun D nD => ?_⟩
  rw [show (((m + 1 : Nat) : Int) - 1).toNat = m by omega]
  refine lc_range (lo := 0) (n := m) (fun i H' => Ex H1 H' ∧ ∃ xs, H' D = some (.lst xs) ∧ Paired (fun v r => ∃ q, v = .ref q ∧ q ≠ D ∧ H' q = some (.tup (Row.vs r))) xs ((clean (m + 1)).take i)) ⟨Evl.Ex.new nD, [], upd_same, .nil⟩ ?_ ?_
  · rintro i H' hi ⟨ex, xs, hD, hP⟩
    have hi' : i < m := hi
    have cl : (clean (m + 1)).length = m := by unfold clean; rw [List.length_map, List.length_range]; omega
    have hg : (clean (m + 1))[i]? = some (Row.set (i + 1) .l) := by
      unfold clean
      rw [List.getElem?_map, List.getElem?_range (by omega)]
      rfl
    have xl := hP.length
    rw [List.length_take] at xl
    refine ⟨rfl, by show 3 ≤ sizeLine; decide, fun q nq => ?_⟩
    have nqD : q ≠ D := fun e => by rw [e, hD] at nq; cases nq
    have x1 := Evl.Ex.new (o := .tup [.str ("set" : Str), .int ((0 : Int) + (i : Int) + 1), .str ("0" : Str)]) nq
    have ev : [V.str ("set" : Str), .int ((0 : Int) + (i : Int) + 1), .str ("0" : Str)] = (Row.set (i + 1) .l).vs := by
      show _ = [V.str ("set" : Str), .int ((i + 1 : Nat) : Int), .str (S [48])]
      rw [show ((i + 1 : Nat) : Int) = (0 : Int) + (i : Int) + 1 by omega]
      rfl
    refine ⟨xs, x1 _ _ hD, by omega, Evl.Ex.mut (ex.trans x1) nD, _, upd_same, ?_⟩
    have ht : (clean (m + 1)).take (i + 1) = (clean (m + 1)).take i ++ [Row.set (i + 1) .l] := by rw [List.take_add_one, hg]; rfl
    rw [ht]
    refine paired_app (Paired.mapP hP fun v r h => ?_) (.cons ⟨q, rfl, nqD, ?_⟩ .nil)
    · obtain ⟨p, h1, h2, h3⟩ := h
      exact ⟨p, h1, h2, by rw [upd_ne h2]; exact x1 _ _ h3⟩
    · rw [upd_ne nqD, ← ev]
      exact upd_same
  · rintro H' ⟨ex, xs, hD, hP⟩
    have cl : (clean (m + 1)).length = m := by unfold clean; rw [List.length_map, List.length_range]; omega
    rw [List.take_of_length_le (by omega)] at hP
    refine k D xs H' (e1.trans ex) (hna D nD) hD (Paired.mapP hP fun v r h => ?_)
    obtain ⟨p, h1, h2, h3⟩ := h
    exact ⟨p, h1, .of h3⟩
end
def sp_L_chain (K : PySem.W.Frag) (_ : Str → Option Value) : Sp := fun vs H Q _ => ∃ (a : Addr) (ps : List V) (progs : List (List Row)), vs = [.ref a] ∧ H a = some (.lst ps) ∧ Progs K H ps progs ∧ progs.length ≤ 100 ∧ (∀ rows ∈ progs, rows.length ≤ 100 ∧ wd rows ≤ 16) ∧ ∀ b xs H', Ex H H' → H b = none → H' b = some (.lst xs) → PrgL K H' xs (chainR 0 progs) → Q (.ref b) H'

section
variable {P : Program} {w : World} {K : PySem.W.Frag} {mg : Str → Option Value} {base : Heap}
theorem ok_L_chain (T : Txt K mg w)
    (c_L_cleaning : Cal P w K mg base CX0 2 "_law_cleaning" ["_law_program_here"] (sp_L_cleaning K mg)) : Cal P w K mg base CX0 3 "_law_chain" ["_law_programs"] (sp_L_chain K mg) := by
  refine T.f_L_chain.ok sc_L_chain (fun vs H Q E h => (by obtain ⟨_, _, _, rfl, _⟩ := h; rfl)) (fun f cdv A outer s H vs Q E hr h => ⟨_, (pss_cons (ps_set (i := 1) sc_L_chain.nd rfl (.inl rfl) (pe_lst pa_nil))
      (pss_cons (ps_for PassesOwn.never rfl (pi_range1 (by rfl) T.n_range (pa_cons (pe_callB (cLen (K := K)) (by rfl) T.n_len PySem.boot_len (pa_cons (nv 0) pa_nil)) pa_nil)) (pg_name (i := 2) sc_L_chain.nd rfl (.inl rfl)) (pss_cons (ps_if (nCmp oGt (nv 2) pe_int (nomark _)) (pss_one (ps_set (i := 1) sc_L_chain.nd rfl (.inl rfl) (pe_op (oAdd (K := K)) (nv 1) (nCall c_L_cleaning (hr.mono (by decide)) pass0 (pa_cons (pe_ix (ixU (K := K)) (nv 0) (nv 2) (fun _ _ => rfl)) pa_nil))))) pss_nil)
      (pss_one (ps_set (i := 1) sc_L_chain.nd rfl (.inl rfl) (pe_op (oAdd (K := K)) (nv 1) (pe_ix (ixU (K := K)) (nv 0) (nv 2) (fun _ _ => rfl)))))))
      (pss_one (ps_ret (nv 1))))), ?_⟩)
  obtain ⟨a, ps, progs, rfl, hS, hP, hlen, hw, k⟩ := h
  have hz : sizeLine = 16777216 := sizeLine_eq
  have hpl := hP.length
  refine ⟨by show 0 ≤ sizeLine; decide, fun F nF => ?_⟩
  have hF := upd_same (H := H) (a := F) (o := .lst [])
  have x0 := Evl.Ex.new (o := .lst []) nF
  generalize upd H F (.lst []) = H2 at hF x0 ⊢
  have hS2 := x0 _ _ hS
  have hP2 := Progs.mono x0 hP
  have hll : ∀ i, (chainR 0 (progs.take i)).length ≤ 200 * i := fun i => by
    have := chainR_len (progs.take i) 0 fun r hr => hw r (List.mem_of_mem_take hr)
    rw [List.length_take] at this
    omega
  refine ⟨_, .l hS2, _, rfl, by omega, by omega, for_range (lo := 0) (n := ps.length) (fun i σ' H' => ∃ (G : Addr) (xs : List V) (x2 : Option V), σ' = [some (.ref a), some (.ref G), x2] ∧ H G = none ∧ Ex H2 H' ∧ H' G = some (.lst xs) ∧ PrgL K H' xs (chainR 0 (progs.take i)))
    ⟨F, [], none, rfl, nF, Ex.refl _, hF, .nil⟩ ?_ ?_⟩
  · rintro i σ' H3 hi ⟨G, xs, x2, rfl, nG, ex, hG1, hPG1⟩
    have hxi : ps[i]? = some ps[i] := List.getElem?_eq_getElem hi
    obtain ⟨rows, hr, q, us, eq, hq, hqP⟩ := paired_get hP2 hxi
    rw [eq] at hxi
    have ei : (0 : Int) + (i : Int) = ((i : Nat) : Int) := by omega
    rw [ei]
    obtain ⟨hw1, hw2⟩ := hw rows (mem_of_get hr)
    have hS3 := ex _ _ hS2
    have hq1 := ex _ _ hq
    have hqP1 := PrgL.mono ex hqP
    have hul := hqP.length
    have hcl := hll i
    have hxl := hPG1.length
    have ht : chainR 0 (progs.take (i + 1)) = chainR 0 (progs.take i) ++ link i rows := by
      rw [List.take_add_one, hr]
      show chainR 0 (progs.take i ++ [rows]) = _
      rw [chainR_snoc, List.length_take, Nat.min_eq_left (by omega), Nat.zero_add]
    rw [ht]
    refine iteD (fun hg => ?_) (fun hg => ?_)
    · have hi0 : ¬ i = 0 := by
        have : (0 : Int) < (i : Nat) := hg
        omega
      rw [link, if_neg hi0]
      refine ⟨_, _, .l hS3, atI_nat hxi, q, us, rows, rfl, hq1, hqP1, by omega, by omega, fun b ys H4 e4 nb hb hPb => ?_⟩
      have hyl := hPb.length
      have hcl2 : (clean (wd rows)).length ≤ 16 := by unfold clean; rw [List.length_map, List.length_range]; omega
      refine .inl ⟨G, b, _, ys, rfl, rfl, e4 _ _ hG1, hb, by omega, fun M nM => ?_⟩
      have x5 := Evl.Ex.new (o := .lst (xs ++ ys)) nM
      refine ⟨_, _, .l (x5 _ _ (e4 _ _ hS3)), atI_nat hxi, .inl ⟨M, q, _, us, rfl, rfl, upd_same, x5 _ _ (e4 _ _ hq1), by rw [List.length_append]; omega, fun N nN => ?_⟩⟩
      have x6 := Evl.Ex.new (o := .lst (xs ++ ys ++ us)) nN
      have eA := e4.trans (x5.trans x6)
      have nN0 : H N = none := ex_none (x0.trans (ex.trans (e4.trans x5))) nN
      refine ⟨N, _, _, rfl, nN0, ex.trans eA, upd_same, ?_⟩
      rw [← List.append_assoc]
      exact paired_app (paired_app (PrgL.mono eA hPG1) (PrgL.mono (x5.trans x6) hPb)) (PrgL.mono eA hqP1)
    · have hi0 : i = 0 := by
        have : ¬ (0 : Int) < (i : Nat) := hg
        omega
      rw [link, if_pos hi0]
      refine ⟨_, _, .l hS3, atI_nat hxi, .inl ⟨G, q, _, us, rfl, rfl, hG1, hq1, by omega, fun N nN => ?_⟩⟩
      have x6 := Evl.Ex.new (o := .lst (xs ++ us)) nN
      have nN0 : H N = none := ex_none (x0.trans ex) nN
      refine ⟨N, _, _, rfl, nN0, ex.trans x6, upd_same, ?_⟩
      exact paired_app (PrgL.mono x6 hPG1) (PrgL.mono x6 hqP1)
  · rintro σ' H3 ⟨G, xs, x2, rfl, nG, ex, hG, hPG⟩
    rw [hpl, List.take_length] at hPG
    exact k G xs H3 (x0.trans ex) nG hG hPG
end
def sp_L_drawL (K : PySem.W.Frag) (_ : Str → Option Value) : Sp := fun vs H Q _ => ∃ (p q : Addr) (ns : List Int) (a b c m : Int), vs = [.ref p, .int m] ∧ 0 < m ∧ m < 1000000 ∧ p ≠ q ∧ H q = some (.lst (ns.map V.int)) ∧ H p = some (.lst [.ref q, .int a, .int b, .int c]) ∧ 0 ≤ b ∧
  ∀ (v a' b' c' : Int), 0 ≤ v → v < m → 0 ≤ b' → Q (.int v) (upd H p (.lst [.ref q, .int a', .int b', .int c']))
def sp_L_draw (K : PySem.W.Frag) (_ : Str → Option Value) : Sp := fun vs H Q _ => ∃ (p : Addr) (m : Int), vs = [.ref p, .int m] ∧ 0 < m ∧ m < 1000000 ∧ StrmAt H p ∧ ∀ (v : Int), 0 ≤ v → v < m → StrmAt H p → Q (.int v) H

section
variable {P : Program} {w : World} {K : PySem.W.Frag} {mg : Str → Option Value} {base : Heap}
theorem ok_L_draw (T : Txt K mg w) : Cal P w K mg base CX0 1 "_law_draw" ["_law_stream_here", "_law_many"] (sp_L_draw K mg) := by
  refine Cal.unseal (sp := sp_L_drawL K mg) (T.f_L_draw.ok sc_L_draw (fun vs H Q E h => (by obtain ⟨_, _, _, _, _, _, _, rfl, _⟩ := h; rfl)) (fun f cdv A outer s H vs Q E hr h => ⟨_, (Evl.pss_cut (ps_if (PW.pt (pw_and (nCmp (oEq (K := K) hr.units) (pe_ix (ixU (K := K)) (nv 0) pe_int (fun _ _ => rfl)) pe_int (nomark _)) (pw_and1 (nCmp oLt (pe_ix (ixU (K := K)) (nv 0) pe_int (fun _ _ => rfl)) (pe_callB (cLen (K := K)) (by rfl) T.n_len PySem.boot_len (pa_cons (pe_ix (ixU (K := K)) (nv 0) pe_int (fun _ _ => rfl)) pa_nil)) (nomark _))))) (pss_cons (ps_asg (pe_callB cAbs (by rfl) T.n_abs PyProof.Rows.boot_abs (pa_cons (pe_callTy cInt (by rfl) T.n_int PyProof.Rows.boot_int (pa_cons (pe_ix (ixU (K := K)) (pe_ix (ixU (K := K)) (nv 0) pe_int (fun _ _ => rfl)) (pe_ix (ixU (K := K)) (nv 0) pe_int (fun _ _ => rfl)) (fun _ _ => rfl)) pa_nil)) pa_nil)) (pg_sub (nv 0) pe_int set_list))
      (pss_one (ps_asg (pe_op (oAdd (K := K)) (pe_ix (ixU (K := K)) (nv 0) pe_int (fun _ _ => rfl)) pe_int) (pg_sub (nv 0) pe_int set_list)))) pss_nil)
      (pss_cons (ps_if (nCmp (oEq (K := K) hr.units) (pe_ix (ixU (K := K)) (nv 0) pe_int (fun _ _ => rfl)) pe_int (nomark _)) (pss_cons (ps_asg (pe_op oMod (pe_callTy cInt (by rfl) T.n_int PyProof.Rows.boot_int (pa_cons (pe_op (oAdd (K := K)) (pe_op (oMul (K := K)) (pe_ix (ixU (K := K)) (nv 0) pe_int (fun _ _ => rfl)) pe_int) pe_int) pa_nil)) pe_int) (pg_sub (nv 0) pe_int set_list))
      (pss_one (ps_ret (pe_op oMod (pe_callTy cInt (by rfl) T.n_int PyProof.Rows.boot_int (pa_cons (pe_op oDiv (pe_ix (ixU (K := K)) (nv 0) pe_int (fun _ _ => rfl)) pe_int) pa_nil)) (nv 1))))) pss_nil)
      (pss_cons (ps_set (i := 2) sc_L_draw.nd rfl (.inl rfl) (pe_op oMod (pe_callTy cInt (by rfl) T.n_int PyProof.Rows.boot_int (pa_cons (pe_ix (ixU (K := K)) (nv 0) pe_int (fun _ _ => rfl)) pa_nil)) (nv 1)))
      (pss_cons (ps_asg (pe_op oDiv (pe_ix (ixU (K := K)) (nv 0) pe_int (fun _ _ => rfl)) (nv 1)) (pg_sub (nv 0) pe_int set_list))
      (pss_one (ps_ret (nv 2))))))), ?_⟩)) (fun vs H Q E h => (by obtain ⟨_, _, rfl, _⟩ := h; rfl)) ?_
  · obtain ⟨p, q, ns, a, b, c, m, rfl, hm, hm2, npq, hq, hp, hb, k⟩ := h
    -- behind the refill: the pool and the place are others
    refine ⟨fun σ' H' => σ' = [some (.ref p), some (.int m), none] ∧ ∃ (a' b' : Int), 0 ≤ b' ∧ H' = upd H p (.lst [.ref q, .int a', .int b', .int c]), ?_, ?_⟩
    · refine ⟨_, _, .l hp, rfl, iteI (fun e1 => ?_) (fun e1 => ⟨rfl, a, b, hb, ?_⟩)⟩
      · refine ⟨_, _, .l hp, rfl, _, _, .l hp, rfl, _, .l hq, iteD (fun e2 => ?_) (fun e2 => ⟨rfl, a, b, hb, ?_⟩)⟩
        · obtain ⟨z, hx⟩ := atI_int hb e2
          refine ⟨_, _, .l hp, rfl, _, _, .l hp, rfl, _, _, .l hq, hx, p, _, 1, 1, rfl, rfl, hp, rfl, ?_⟩
          refine ⟨_, _, .l upd_same, rfl, p, _, 2, 2, rfl, rfl, upd_same, rfl, rfl, _, b + 1, by omega, upd_upd⟩
        · exact (upd_self hp).symm
      · exact (upd_self hp).symm
    · rintro σ' H' ⟨rfl, a', b', hb', rfl⟩
      refine ⟨_, _, .l upd_same, rfl, iteI (fun e1 => ?_) (fun e1 => ?_)⟩
      · refine ⟨_, _, .l upd_same, rfl, .inr ⟨by decide, by decide⟩, by decide, p, _, 3, 3, rfl, rfl, upd_same, rfl, ?_⟩
        refine ⟨_, _, .l upd_same, rfl, ⟨by decide, by decide⟩, hm, ?_⟩
        rw [upd_upd]
        exact k _ _ _ _ (Int.emod_nonneg _ (by omega)) (Int.emod_lt_of_pos _ hm) hb'
      · refine ⟨_, _, .l upd_same, rfl, hm, _, _, .l upd_same, rfl, ⟨hm, by omega⟩, p, _, 1, 1, rfl, rfl, upd_same, rfl, ?_⟩
        rw [upd_upd]
        exact k _ _ _ _ (Int.emod_nonneg _ (by omega)) (Int.emod_lt_of_pos _ hm) hb'
  · rintro vs H Q E ⟨p, m, rfl, hm, hm2, st, k⟩
    refine ⟨p, st, fun q ns a b c hp hq hb => ⟨p, q, ns, a, b, c, m, rfl, hm, hm2, ?_, ?_, upd_same, hb, fun v a' b' c' h0 h1 h2 => ⟨k v h0 h1 st, a', b', c', h2, rfl⟩⟩⟩
    · intro e; rw [e, hq] at hp; cases hp
    · rw [upd_ne (fun e => by rw [e, hp] at hq; cases hq)]; exact hq
end
def sp_L_tree (K : PySem.W.Frag) (_ : Str → Option Value) : Sp := fun vs H Q _ => ∃ (p : Addr) (n : Nat), vs = [.ref p, .int n] ∧ n ≤ 1000 ∧ StrmAt H p ∧ ∀ t : Tr, t.pairs ≤ n → StrmAt H p → Q (.str (S t.enc)) H

section
variable {P : Program} {w : World} {K : PySem.W.Frag} {mg : Str → Option Value} {base : Heap}
theorem ok_L_tree (T : Txt K mg w)
    (c_L_draw : Cal P w K mg base CX0 1 "_law_draw" ["_law_stream_here", "_law_many"] (sp_L_draw K mg)) : Cal P w K mg base CX0 2 "_law_tree" ["_law_stream_here", "_law_pairs"] (sp_L_tree K mg) := by
  refine T.f_L_tree.ok sc_L_tree (fun vs H Q E h => (by obtain ⟨_, _, rfl, _⟩ := h; rfl)) (fun f cdv A outer s H vs Q E hr h => ⟨_, (pss_cons (ps_set (i := 2) sc_L_tree.nd rfl (.inl rfl) pe_str)
      (pss_cons (ps_set (i := 3) sc_L_tree.nd rfl (.inl rfl) pe_int)
      (pss_cons (ps_while PassesOwn.never (nCmp oGt (nv 3) pe_int (nomark _)) (pss_one (ps_if (PW.pt (pw_or (PW.pt (pw_and (nCmp oGt (nv 1) pe_int (nomark _)) (pw_and1 (nCmp oLt (nCall c_L_draw (hr.mono (by decide)) pass0 (pa_cons (nv 0) (pa_cons (pe_op (oAdd (K := K)) (nv 3) pe_int) pa_nil))) (nv 3) (nomark _))))) (pw_or1 (PW.pt (pw_and (nCmp oGt (nv 1) pe_int (nomark _)) (pw_and (nCmp (oEq (K := K) hr.units) (nv 3) pe_int (nomark _)) (pw_and1 (nCmp oGt (nCall c_L_draw (hr.mono (by decide)) pass0 (pa_cons (nv 0) (pa_cons pe_int pa_nil))) pe_int (nomark _))))))))) (pss_cons (ps_set (i := 2) sc_L_tree.nd rfl (.inl rfl) (pe_op (oAdd (K := K)) (nv 2) pe_str))
      (pss_cons (ps_set (i := 3) sc_L_tree.nd rfl (.inl rfl) (pe_op (oAdd (K := K)) (nv 3) pe_int))
      (pss_one (ps_set (i := 1) sc_L_tree.nd rfl (.inl rfl) (pe_op oSub (nv 1) pe_int))))) (pss_cons (ps_set (i := 2) sc_L_tree.nd rfl (.inl rfl) (pe_op (oAdd (K := K)) (nv 2) pe_str))
      (pss_one (ps_set (i := 3) sc_L_tree.nd rfl (.inl rfl) (pe_op oSub (nv 3) pe_int)))))))
      (pss_one (ps_ret (nv 2)))))), ?_⟩)
  obtain ⟨p, n, rfl, hn, st, k⟩ := h
  refine ⟨fun m σ' H' => H' = H ∧ ∃ (s : List Nat) (mi pa : Nat), σ' = [some (.ref p), some (.int pa), some (.str (S s)), some (.int mi)] ∧ scan 1 s = some mi ∧ s.length + mi = 2 * (n - pa) + 1 ∧ pa ≤ n ∧ m = 2 * pa + mi, ⟨2 * n + 1, rfl, [], 1, n, rfl, rfl, by simp, Nat.le_refl _, rfl⟩, ?_⟩
  rintro m σ' H' ⟨rfl, s, mi, pa, rfl, hs, hl, hp, rfl⟩
  refine iteD (fun h0 => ?_) (fun h0 => ?_)
  · refine ⟨fun σ2 H2 => H2 = H' ∧ ∃ (s : List Nat) (mi' pa' : Nat), σ2 = [some (.ref p), some (.int pa'), some (.str (S s)), some (.int mi')] ∧ scan 1 s = some mi' ∧ s.length + mi' = 2 * (n - pa') + 1 ∧ pa' ≤ n ∧ 2 * pa' + mi' < 2 * pa + mi, ?_, ?_⟩
    · rintro σ2 H2 ⟨rfl, s', mi', pa', rfl, h1, h2, h3, h4⟩
      exact ⟨2 * pa' + mi', h4, rfl, s', mi', pa', rfl, h1, h2, h3, rfl⟩
    · obtain ⟨j, rfl⟩ : ∃ j, mi = j + 1 := ⟨mi - 1, by omega⟩
      have hz : sizeLine = 16777216 := sizeLine_eq
      -- a pair
      have yes : 0 < pa → ∃ (s' : List Nat) (mi' pa' : Nat), (([some (V.ref p), some (.int pa), some (.str (S s)), some (.int ((j + 1 : Nat) : Int))].set 2 (some (.str (S s ++ ("1" : Str))))).set 3 (some (.int (((j + 1 : Nat) : Int) + 1)))).set 1 (some (.int ((pa : Int) - 1))) = [some (.ref p), some (.int pa'), some (.str (S s')), some (.int mi')] ∧ scan 1 s' = some mi' ∧ s'.length + mi' = 2 * (n - pa') + 1 ∧ pa' ≤ n ∧ 2 * pa' + mi' < 2 * pa + (j + 1) := by
        intro hpa
        refine ⟨s ++ [49], j + 2, pa - 1, ?_, ?_, ?_, by omega, by omega⟩
        · rw [S_app1, show ((j + 1 : Nat) : Int) + 1 = ((j + 2 : Nat) : Int) by omega, show (pa : Int) - 1 = ((pa - 1 : Nat) : Int) by omega]
          rfl
        · rw [scan_append, hs]; rfl
        · rw [List.length_append]; simp only [List.length_cons, List.length_nil]; omega
      have no : ∃ (s' : List Nat) (mi' pa' : Nat), ([some (V.ref p), some (.int pa), some (.str (S s)), some (.int ((j + 1 : Nat) : Int))].set 2 (some (.str (S s ++ ("0" : Str))))).set 3 (some (.int (((j + 1 : Nat) : Int) - 1))) = [some (.ref p), some (.int pa'), some (.str (S s')), some (.int mi')] ∧ scan 1 s' = some mi' ∧ s'.length + mi' = 2 * (n - pa') + 1 ∧ pa' ≤ n ∧ 2 * pa' + mi' < 2 * pa + (j + 1) := by
        refine ⟨s ++ [48], j, pa, ?_, ?_, ?_, by omega, by omega⟩
        · rw [S_app0, show ((j + 1 : Nat) : Int) - 1 = (j : Int) by omega]
          rfl
        · rw [scan_append, hs]; rfl
        · rw [List.length_append]; simp only [List.length_cons, List.length_nil]; omega
      have len1 : (S s).length + (("1" : Str)).length ≤ sizeLine := by
        show s.length + 1 ≤ sizeLine
        omega
      refine iteD (fun hpa => ?_) (fun hpa => ?_)
      · refine ⟨p, _, rfl, by omega, by omega, st, fun v hv0 hv1 _ => iteD (fun hv => ⟨len1, rfl, yes (by omega)⟩) (fun hv => iteD (fun _ => iteI (fun e1 => ⟨p, _, rfl, by decide, by decide, st, fun v hv0 hv1 _ => iteD (fun hv => ⟨len1, rfl, yes (by omega)⟩) (fun hv => ⟨len1, rfl, no⟩)⟩) (fun e1 => ⟨len1, rfl, no⟩)) (fun hq => absurd hpa hq))⟩
      · exact iteD (fun hq => absurd hq hpa) (fun _ => ⟨len1, rfl, no⟩)
  · have e0 : mi = 0 := by omega
    subst e0
    obtain ⟨t, rfl⟩ := scan_tree hs
    refine k t ?_ st
    have := t.enc_len
    omega
end
theorem sw6 (v : V) (hv : v ∈ [V.str ("set" : Str), .str ("move" : Str), .str ("cons" : Str), .str ("head" : Str), .str ("tail" : Str), .str ("jump" : Str), .str ("cons" : Str), .str ("tail" : Str)]) :
    v = .str ("set" : Str) ∨ v = .str ("move" : Str) ∨ v = .str ("cons" : Str) ∨ v = .str ("head" : Str) ∨ v = .str ("tail" : Str) ∨ v = .str ("jump" : Str) := by
  simp only [List.mem_cons, List.not_mem_nil, or_false] at hv
  rcases hv with h | h | h | h | h | h | h | h <;> simp [h]
def sp_L_program (K : PySem.W.Frag) (_ : Str → Option Value) : Sp := fun vs H Q _ => ∃ (p : Addr) (most wide : Nat), vs = [.ref p, .int most, .int wide] ∧ most ≤ 1000 ∧ 1 ≤ wide ∧ wide ≤ 1000 ∧ StrmAt H p ∧
  ∀ (a : Addr) (H' : Hp) (xs : List V) (rows : List Row), Ex H H' → H a = none → H' a = some (.lst xs) → PrgL K H' xs rows → rows.length ≤ most → OkPrg wide rows → treesLe 3 rows → StrmAt H' p → Q (.ref a) H'

section
variable {P : Program} {w : World} {K : PySem.W.Frag} {mg : Str → Option Value} {base : Heap}
theorem ok_L_program (T : Txt K mg w)
    (c_L_tree : Cal P w K mg base CX0 2 "_law_tree" ["_law_stream_here", "_law_pairs"] (sp_L_tree K mg))
    (c_L_draw : Cal P w K mg base CX0 1 "_law_draw" ["_law_stream_here", "_law_many"] (sp_L_draw K mg)) : Cal P w K mg base CX0 3 "_law_program" ["_law_stream_here", "_law_most", "_law_wide"] (sp_L_program K mg) := by
  refine T.f_L_program.ok sc_L_program (fun vs H Q E h => (by obtain ⟨_, _, _, rfl, _⟩ := h; rfl)) (fun f cdv A outer s H vs Q E hr h => ⟨_, (pss_cons (ps_set (i := 3) sc_L_program.nd rfl (.inl rfl) (nCall c_L_draw (hr.mono (by decide)) pass0 (pa_cons (nv 0) (pa_cons (pe_op (oAdd (K := K)) (nv 1) pe_int) pa_nil))))
      (pss_cons (ps_set (i := 4) sc_L_program.nd rfl (.inl rfl) (pe_lst pa_nil))
      (pss_cons (ps_for PassesOwn.never rfl (pi_range1 (by rfl) T.n_range (pa_cons (nv 3) pa_nil)) (pg_name (i := 5) sc_L_program.nd rfl (.inl rfl)) (pss_cons (ps_set (i := 6) sc_L_program.nd rfl (.inl rfl) (pe_ix (ixU (K := K)) (pe_lst (pa_cons pe_str (pa_cons pe_str (pa_cons pe_str (pa_cons pe_str (pa_cons pe_str (pa_cons pe_str (pa_cons pe_str (pa_cons pe_str pa_nil))))))))) (nCall c_L_draw (hr.mono (by decide)) pass0 (pa_cons (nv 0) (pa_cons pe_int pa_nil))) (fun _ _ => rfl)))
      (pss_cons (ps_set (i := 7) sc_L_program.nd rfl (.inl rfl) (nCall c_L_draw (hr.mono (by decide)) pass0 (pa_cons (nv 0) (pa_cons (nv 2) pa_nil))))
      (pss_cons (ps_set (i := 8) sc_L_program.nd rfl (.inl rfl) (nCall c_L_draw (hr.mono (by decide)) pass0 (pa_cons (nv 0) (pa_cons (nv 2) pa_nil))))
      (pss_one (ps_if (nCmp (oEq (K := K) hr.units) (nv 6) pe_str (nomark _)) (pss_one (ps_expr (pe_bm PySem.F.plainAttrs_list PySem.F.slot_list_append PySem.F.type_list_append mt_append (nv 4) (pa_cons (pe_tup (pa_cons (nv 6) (pa_cons (nv 7) (pa_cons (nCall c_L_tree (hr.mono (by decide)) pass0 (pa_cons (nv 0) (pa_cons (nCall c_L_draw (hr.mono (by decide)) pass0 (pa_cons (nv 0) (pa_cons pe_int pa_nil))) pa_nil))) pa_nil)))) pa_nil)))) (pss_one (ps_if (nCmp (oEq (K := K) hr.units) (nv 6) pe_str (nomark _)) (pss_one (ps_expr (pe_bm PySem.F.plainAttrs_list PySem.F.slot_list_append PySem.F.type_list_append mt_append (nv 4) (pa_cons (pe_tup (pa_cons (nv 6) (pa_cons (nv 7) (pa_cons (nv 8) (pa_cons (nCall c_L_draw (hr.mono (by decide)) pass0 (pa_cons (nv 0) (pa_cons (nv 2) pa_nil))) pa_nil))))) pa_nil)))) (pss_one (ps_if (nCmp (oEq (K := K) hr.units) (nv 6) pe_str (nomark _)) (pss_one (ps_expr (pe_bm PySem.F.plainAttrs_list PySem.F.slot_list_append PySem.F.type_list_append mt_append (nv 4) (pa_cons (pe_tup (pa_cons (nv 6) (pa_cons (nv 7) (pa_cons (pe_op oSub (nCall c_L_draw (hr.mono (by decide)) pass0 (pa_cons (nv 0) (pa_cons (pe_op (oAdd (K := K)) (nv 3) pe_int) pa_nil))) (nv 5)) pa_nil)))) pa_nil)))) (pss_one (ps_expr (pe_bm PySem.F.plainAttrs_list PySem.F.slot_list_append PySem.F.type_list_append mt_append (nv 4) (pa_cons (pe_tup (pa_cons (nv 6) (pa_cons (nv 7) (pa_cons (nv 8) pa_nil)))) pa_nil))))))))))))))
      (pss_one (ps_ret (nv 4)))))), ?_⟩)
  obtain ⟨p, most, wide, rfl, hm, hw1, hw2, st, k⟩ := h
  have hz : sizeLine = 16777216 := sizeLine_eq
  refine ⟨p, _, rfl, by omega, by omega, st, fun v hv0 hv1 _ => ?_⟩
  obtain ⟨v, rfl⟩ := Int.eq_ofNat_of_zero_le hv0
  refine ⟨by show 0 ≤ sizeLine; decide, fun a na => ?_⟩
  have e0 := Evl.Ex.new (o := .lst []) na
  refine ⟨_, rfl, by omega, by omega, for_range (lo := 0) (n := v) (fun i σ' H' => ∃ (xs : List V) (rows : List Row) (x5 x6 x7 x8 : Option V), σ' = [some (.ref p), some (.int most), some (.int wide), some (.int v), some (.ref a), x5, x6, x7, x8] ∧ Ex H H' ∧ H' a = some (.lst xs) ∧ PrgL K H' xs rows ∧ rows.length = i ∧ (∀ j r, rows[j]? = some r → OkRow wide v j r) ∧ treesLe 3 rows)
    ⟨[], [], none, none, none, none, rfl, e0, upd_same, .nil, rfl, fun j r h => by simp at h, fun r hr => by simp at hr⟩ ?_ ?_⟩
  · rintro i σ' H' hi ⟨xs, rows, x5, x6, x7, x8, rfl, ex, hH, hP, hl, hok, htr⟩
    refine ⟨by show 8 ≤ sizeLine; decide, fun q nq => ?_⟩
    have e1 := Evl.Ex.new (o := .lst [.str ("set" : Str), .str ("move" : Str), .str ("cons" : Str), .str ("head" : Str), .str ("tail" : Str), .str ("jump" : Str), .str ("cons" : Str), .str ("tail" : Str)]) nq
    have hq : (upd H' q (.lst [.str ("set" : Str), .str ("move" : Str), .str ("cons" : Str), .str ("head" : Str), .str ("tail" : Str), .str ("jump" : Str), .str ("cons" : Str), .str ("tail" : Str)])) q = some (.lst [.str ("set" : Str), .str ("move" : Str), .str ("cons" : Str), .str ("head" : Str), .str ("tail" : Str), .str ("jump" : Str), .str ("cons" : Str), .str ("tail" : Str)]) := upd_same
    have ex1 := ex.trans e1
    have hH1 := e1 _ _ hH
    have hP1 := hP.mono e1
    generalize upd H' q (.lst [.str ("set" : Str), .str ("move" : Str), .str ("cons" : Str), .str ("head" : Str), .str ("tail" : Str), .str ("jump" : Str), .str ("cons" : Str), .str ("tail" : Str)]) = H1 at e1 hq ex1 hH1 hP1 ⊢
    have st1 := st.mono ex1
    refine ⟨p, _, rfl, by decide, by decide, st1, fun w hw0 hw1' _ => ?_⟩
    refine mem_ix (P := fun v => v = .str ("set" : Str) ∨ v = .str ("move" : Str) ∨ v = .str ("cons" : Str) ∨ v = .str ("head" : Str) ∨ v = .str ("tail" : Str) ∨ v = .str ("jump" : Str)) (.l hq) hw0 hw1' sw6 (fun w6 hw6 => ?_)
    refine ⟨p, _, rfl, by omega, by omega, st1, fun A hA0 hA1 _ => ?_⟩
    obtain ⟨A, rfl⟩ := Int.eq_ofNat_of_zero_le hA0
    refine ⟨p, _, rfl, by omega, by omega, st1, fun B hB0 hB1 _ => ?_⟩
    obtain ⟨B, rfl⟩ := Int.eq_ofNat_of_zero_le hB0
    have sz : xs.length < sizeLine := by rw [hP.length, hl]; omega
    -- a row more
    have more : ∀ (r : Row) (t : Addr), H1 t = none → OkRow wide v i r → (∀ u, r.tree = some u → u.pairs ≤ 3) → ∃ (xs' : List V) (rows' : List Row),
        upd (upd H1 t (.tup r.vs)) a (.lst (xs ++ [.ref t])) = upd (upd H1 t (.tup r.vs)) a (.lst xs') ∧ Ex H (upd (upd H1 t (.tup r.vs)) a (.lst xs')) ∧ (upd (upd H1 t (.tup r.vs)) a (.lst xs')) a = some (.lst xs') ∧ PrgL K (upd (upd H1 t (.tup r.vs)) a (.lst xs')) xs' rows' ∧ rows'.length = i + 1 ∧ (∀ j r, rows'[j]? = some r → OkRow wide v j r) ∧ treesLe 3 rows' := by
      intro r t nt hr ht
      have nta : t ≠ a := fun e => by rw [e, hH1] at nt; cases nt
      have ext := Evl.Ex.new (o := .tup r.vs) nt
      refine ⟨xs ++ [.ref t], rows ++ [r], rfl, Evl.Ex.mut (ex1.trans ext) na, upd_same, ?_, by rw [List.length_append, hl]; rfl, ?_, ?_⟩
      · have kp : Kp a (upd H1 t (.tup r.vs)) (upd (upd H1 t (.tup r.vs)) a (.lst (xs ++ [.ref t]))) := (Kp.refl _ _).upd
        refine paired_app (kp.prg (ext _ _ hH1) (hP1.mono ext)) (.cons ⟨t, rfl, .of ?_⟩ .nil)
        rw [upd_ne nta, upd_same]
      · intro j s hj
        rw [List.getElem?_append] at hj
        split at hj
        · exact hok j s hj
        · rename_i hge
          rw [hl] at hge hj
          have : j = i := by
            by_cases q : j = i
            · exact q
            · rw [List.getElem?_eq_none (by simp only [List.length_singleton]; omega)] at hj; cases hj
          subst this
          rw [Nat.sub_self] at hj
          cases hj
          exact hr
      · intro s hs u hu
        rcases List.mem_append.mp hs with h | h
        · exact htr s h u hu
        · rw [List.mem_singleton.mp h] at hu
          exact ht u hu
    have two : ∀ x, x ∈ [A, B] → x < wide := fun x hx => by
      simp only [List.mem_cons, List.not_mem_nil, or_false] at hx
      rcases hx with h | h <;> omega
    rcases hw6 with rfl | rfl | rfl | rfl | rfl | rfl
    · refine ⟨.inl ⟨rfl, _, .of hH1⟩, p, _, rfl, by decide, by decide, st1, fun n hn0 hn1 _ => ?_⟩
      obtain ⟨n, rfl⟩ := Int.eq_ofNat_of_zero_le hn0
      refine ⟨p, n, rfl, by omega, st1, fun u hu _ => ⟨by show 3 ≤ sizeLine; decide, fun t nt => ?_⟩⟩
      obtain ⟨xs', rows', h1, h2, h3, h4, h5, h6, h7⟩ := more (.set A u) t nt (fun x hx => two x (by rw [List.mem_singleton.mp hx]; exact List.mem_cons_self)) (fun w hw => by cases hw; omega)
      have nta : a ≠ t := fun e => by rw [← e, hH1] at nt; cases nt
      refine ⟨a, xs, _, rfl, rfl, by rw [upd_ne nta]; exact hH1, sz, xs', rows', _, _, _, _, rfl, ?_⟩
      exact h1 ▸ ⟨h2, h3, h4, h5, h6, h7⟩
    · refine ⟨.inl ⟨rfl, _, .of hH1⟩, by show 3 ≤ sizeLine; decide, fun t nt => ?_⟩
      obtain ⟨xs', rows', h1, h2, h3, h4, h5, h6, h7⟩ := more (.move A B) t nt two (fun w hw => by cases hw)
      have nta : a ≠ t := fun e => by rw [← e, hH1] at nt; cases nt
      refine ⟨a, xs, _, rfl, rfl, by rw [upd_ne nta]; exact hH1, sz, xs', rows', _, _, _, _, rfl, ?_⟩
      exact h1 ▸ ⟨h2, h3, h4, h5, h6, h7⟩
    · refine ⟨.inl ⟨rfl, _, .of hH1⟩, p, _, rfl, by omega, by omega, st1, fun C hC0 hC1 _ => ?_⟩
      obtain ⟨C, rfl⟩ := Int.eq_ofNat_of_zero_le hC0
      refine ⟨by show 4 ≤ sizeLine; decide, fun t nt => ?_⟩
      obtain ⟨xs', rows', h1, h2, h3, h4, h5, h6, h7⟩ := more (.cons A B C) t nt (fun x hx => by
        have hx' : x ∈ [A, B, C] := hx
        simp only [List.mem_cons, List.not_mem_nil, or_false] at hx'
        rcases hx' with h | h | h <;> omega) (fun w hw => by cases hw)
      have nta : a ≠ t := fun e => by rw [← e, hH1] at nt; cases nt
      refine ⟨a, xs, _, rfl, rfl, by rw [upd_ne nta]; exact hH1, sz, xs', rows', _, _, _, _, rfl, ?_⟩
      exact h1 ▸ ⟨h2, h3, h4, h5, h6, h7⟩
    · refine ⟨.inl ⟨rfl, _, .of hH1⟩, by show 3 ≤ sizeLine; decide, fun t nt => ?_⟩
      obtain ⟨xs', rows', h1, h2, h3, h4, h5, h6, h7⟩ := more (.head A B) t nt two (fun w hw => by cases hw)
      have nta : a ≠ t := fun e => by rw [← e, hH1] at nt; cases nt
      refine ⟨a, xs, _, rfl, rfl, by rw [upd_ne nta]; exact hH1, sz, xs', rows', _, _, _, _, rfl, ?_⟩
      exact h1 ▸ ⟨h2, h3, h4, h5, h6, h7⟩
    · refine ⟨.inl ⟨rfl, _, .of hH1⟩, by show 3 ≤ sizeLine; decide, fun t nt => ?_⟩
      obtain ⟨xs', rows', h1, h2, h3, h4, h5, h6, h7⟩ := more (.tail A B) t nt two (fun w hw => by cases hw)
      have nta : a ≠ t := fun e => by rw [← e, hH1] at nt; cases nt
      refine ⟨a, xs, _, rfl, rfl, by rw [upd_ne nta]; exact hH1, sz, xs', rows', _, _, _, _, rfl, ?_⟩
      exact h1 ▸ ⟨h2, h3, h4, h5, h6, h7⟩
    · refine ⟨.inl ⟨rfl, _, .of hH1⟩, p, _, rfl, by omega, by omega, st1, fun C hC0 hC1 _ => ?_⟩
      refine ⟨by show 3 ≤ sizeLine; decide, fun t nt => ?_⟩
      obtain ⟨xs', rows', h1, h2, h3, h4, h5, h6, h7⟩ := more (.jump A (C - (0 + (i : Int)))) t nt ⟨by omega, by omega, by omega⟩ (fun w hw => by cases hw)
      have nta : a ≠ t := fun e => by rw [← e, hH1] at nt; cases nt
      refine ⟨a, xs, _, rfl, rfl, by rw [upd_ne nta]; exact hH1, sz, xs', rows', _, _, _, _, rfl, ?_⟩
      exact h1 ▸ ⟨h2, h3, h4, h5, h6, h7⟩
  · rintro σ' H' ⟨xs, rows, x5, x6, x7, x8, rfl, ex, hH, hP, hl, hok, htr⟩
    exact k a H' xs rows ex na hH hP (by omega) (fun i r h => hl ▸ hok i r h) htr (st.mono ex)
end
def sp_L_streamL (K : PySem.W.Frag) (_ : Str → Option Value) : Sp := fun vs H Q _ => ∃ (a : Addr) (ns : List Int), vs = [.ref a] ∧ SqL K H a (ns.map V.int) ∧
  ∀ (p q : Addr) (H' : Hp) (c : Int), Ex H H' → H p = none → p ≠ q → H' q = some (.lst (ns.map V.int)) → H' p = some (.lst [.ref q, .int 0, .int 0, .int c]) → Q (.ref p) H'
def sp_L_stream (K : PySem.W.Frag) (_ : Str → Option Value) : Sp := fun vs H Q _ => ∃ (a : Addr) (ns : List Int), vs = [.ref a] ∧ SqL K H a (ns.map V.int) ∧
  ∀ (p : Addr) (H' : Hp), Ex H H' → StrmAt H' p → Q (.ref p) H'

section
variable {P : Program} {w : World} {K : PySem.W.Frag} {mg : Str → Option Value} {base : Heap}
theorem ok_L_stream (T : Txt K mg w) : Cal P w K mg base CX0 1 "_law_stream" ["_law_script"] (sp_L_stream K mg) := by
  refine Cal.seal (sp := sp_L_streamL K mg) (T.f_L_stream.ok sc_L_stream (fun vs H Q E h => (by obtain ⟨_, _, rfl, _⟩ := h; rfl)) (fun f cdv A outer s H vs Q E hr h => ⟨_, (pss_cons (ps_set (i := 1) sc_L_stream.nd rfl (.inl rfl) pe_int)
      (pss_cons (ps_for PassesOwn.never rfl (piAny (K := K) (nv 0)) (pg_name (i := 2) sc_L_stream.nd rfl (.inl rfl)) (pss_one (ps_set (i := 1) sc_L_stream.nd rfl (.inl rfl) (pe_op oMod (pe_callTy cInt (by rfl) T.n_int PyProof.Rows.boot_int (pa_cons (pe_op (oAdd (K := K)) (pe_op (oAdd (K := K)) (pe_op (oMul (K := K)) (nv 1) pe_int) (pe_op oMod (pe_callTy cInt (by rfl) T.n_int PyProof.Rows.boot_int (pa_cons (nv 2) pa_nil)) pe_int)) pe_int) pa_nil)) pe_int))))
      (pss_one (ps_ret (pe_lst (pa_cons (pe_callTy (cList (K := K)) (by rfl) T.n_list PyProof.Rows.boot_list (pa_cons (nv 0) pa_nil)) (pa_cons pe_int (pa_cons pe_int (pa_cons (nv 1) pa_nil))))))))), ?_⟩)) ?_
  · obtain ⟨a, ns, rfl, hS, k⟩ := h
    refine .inl ⟨⟨_, hS⟩, for_list (K := K) (a := a) (xs := ns.map V.int) (fun i σ H' => H' = H ∧ ∃ (c : Int) (v : Option V), σ = [some (.ref a), some (.int c), v]) ⟨rfl, 17, none, rfl⟩ (fun i σ H' _ e => by rw [e.1]; exact hS) ?_ ?_⟩
    · rintro i x σ H' hi ⟨rfl, c, v, rfl⟩
      obtain ⟨z, rfl⟩ : ∃ z, x = V.int z := by
        rw [List.getElem?_map] at hi
        cases e : ns[i]? with
        | none => rw [e] at hi; cases hi
        | some u => rw [e] at hi; exact ⟨u, (Option.some.inj hi).symm⟩
      refine ⟨.inr ⟨by decide, by decide⟩, by decide, by decide, rfl, _, _, rfl⟩
    · rintro σ H' ⟨rfl, c, v, rfl⟩
      refine ⟨_, .inl hS, fun q nq => ⟨by show 4 ≤ sizeLine; decide, fun p np => ?_⟩⟩
      have npq : p ≠ q := fun e => by rw [e, upd_same] at np; cases np
      have np' : H' p = none := by rw [upd_ne npq] at np; exact np
      exact k p q _ c ((Evl.Ex.new nq).trans (Evl.Ex.new np)) np' npq (by rw [upd_ne npq.symm, upd_same]) upd_same
  · rintro vs H Q E ⟨a, ns, rfl, hS, k⟩
    refine ⟨a, ns, rfl, hS, fun p q H' c e np npq hq hp => ⟨p, q, 0, 0, c, hp, by decide, k p _ (e.mut np) ⟨q, ns, upd_same, by rw [upd_ne npq.symm]; exact hq⟩⟩⟩
end
/-- a program of the script -/
def Good (rows : List Row) : Prop := OkPrg 16 rows ∧ rows.length ≤ 6 ∧ treesLe 3 rows
/-- programs, none of them at D -/
abbrev ProgsN (K : PySem.W.Frag) (D : Addr) (H : Hp) : List V → List (List Row) → Prop := Paired fun v rows => ∃ q xs, v = .ref q ∧ q ≠ D ∧ H q = some (.lst xs) ∧ PrgL K H xs rows
theorem ProgsN.kp {K : PySem.W.Frag} {D : Addr} {H H' : Hp} {l : List V} (k : Kp D H H') (hD : H D = some (.lst l)) {ps : List V} {progs : List (List Row)} (h : ProgsN K D H ps progs) : ProgsN K D H' ps progs :=
  Paired.mapP h fun _ _ ⟨q, xs, h1, h2, h3, h4⟩ => ⟨q, xs, h1, h2, k _ _ h2 h3, k.prg hD h4⟩
theorem ProgsN.progs {K : PySem.W.Frag} {D : Addr} {H : Hp} {ps : List V} {progs : List (List Row)} (h : ProgsN K D H ps progs) : Progs K H ps progs :=
  Paired.mapP h fun _ _ ⟨q, xs, h1, _, h3, h4⟩ => ⟨q, xs, h1, h3, h4⟩
theorem chain_len6 : ∀ (ps : List (List Row)) (j : Nat), (∀ rows ∈ ps, Good rows) → (chainR j ps).length ≤ 21 * ps.length
  | [], _, _ => Nat.zero_le _
  | p :: ps, j, h => by
    obtain ⟨g1, g2, _⟩ := h p List.mem_cons_self
    have h2 := chain_len6 ps (j + 1) fun r hr => h r (List.mem_cons_of_mem _ hr)
    have hw := wd_le (w := 16) (by decide) g1.regs
    have h3 : (link j p).length ≤ 21 := by
      unfold link clean
      split
      · omega
      · rw [List.length_append, List.length_map, List.length_range]; omega
    show (link j p ++ chainR (j + 1) ps).length ≤ 21 * (ps.length + 1)
    rw [List.length_append]
    omega
theorem chain_prog {ps : List (List Row)} (hl : ps.length ≤ 5) (h : ∀ rows ∈ ps, Good rows) : isProgD (prgD (chainR 0 ps)) = true ∧ treesLe 3 (chainR 0 ps) := by
  have l := chain_len6 ps 0 h
  have ht := trees_chain (n := 3) ps 0 fun p hp => (h p hp).2.2
  refine ⟨prog_ok (n := 3) (OkPrg.mono (by decide) (okPrg_chain (w := 16) (by decide) ps 0 fun p hp => (h p hp).1)) (by omega) ht (by omega) (by decide), ht⟩
def progsD (ps : List (List Row)) : PyData := .list (ps.map prgD)
theorem progs_dpAll {K : PySem.W.Frag} {H : Hp} : ∀ {vs : List V} {ps : List (List Row)}, Progs K H vs ps → DpAll K H vs (ps.map prgD)
  | _, _, .nil => .nil
  | _, _, .cons ⟨q, xs, e, h1, h2⟩ t => by
    subst e
    exact .cons (PrgAt.dp ⟨xs, .of h1, h2⟩) (progs_dpAll t)
theorem progsD_shaped (ps : List (List Row)) : SeqAt.shaped (progsD ps) = true := by
  have h1 : nb (progsD ps) = true := by
    show nbAll (ps.map prgD) = true
    induction ps with
    | nil => rfl
    | cons p ps ih =>
      show (nb (prgD p) && nbAll (ps.map prgD)) = true
      rw [prgD_nb, ih]; rfl
  refine shaped_of h1 ?_
  have h2 : PyData.depthAll (ps.map prgD) ≤ 2 := all_depth fun d hd => by
    obtain ⟨p, _, rfl⟩ := List.mem_map.mp hd
    exact prgD_depth p
  simp only [progsD, PyData.depth]
  omega
theorem last_cut (xs : List V) (y : V) : cutV (xs ++ [y]) (some (-1)) none = [y] := by
  have e : HT.sIx (xs ++ [y]).length 0 (some (-1)) = xs.length := by
    rw [List.length_append, List.length_singleton]
    show (if (-1 : Int) < 0 then ((-1 : Int) + ((xs.length + 1 : Nat) : Int)).toNat else min (-1 : Int).toNat (xs.length + 1)) = xs.length
    rw [if_pos (by decide)]
    omega
  unfold cutV
  rw [e, HT.sIx_none, List.drop_left, List.length_append, List.length_singleton, show xs.length + 1 - xs.length = 1 by omega]
  rfl

section
variable {P : Program} {w : World} {K : PySem.W.Frag} {mg : Str → Option Value} {base : Heap}
theorem ok_L_law {f : Addr} {fd : FuncData} (T : Txt K mg w) (F : Fun K "law" "law" s_L_law f fd)
    (c_building_constant : Cal P w K mg base (L2.CX P w) 5 "constant" ["tree"] (sp_building_constant K mg))
    (c_building_chain : Cal P w K mg base (L2.CX P w) 5 "chain" ["programs"] (sp_building_chain K mg))
    (c_programs_is_program : Cal P w K mg base CX0 3 "is_program" ["value"] (sp_programs_is_program K mg))
    (c_L_chain : Cal P w K mg base CX0 3 "_law_chain" ["_law_programs"] (sp_L_chain K mg))
    (c_L_draw : Cal P w K mg base CX0 1 "_law_draw" ["_law_stream_here", "_law_many"] (sp_L_draw K mg))
    (c_L_program : Cal P w K mg base CX0 3 "_law_program" ["_law_stream_here", "_law_most", "_law_wide"] (sp_L_program K mg))
    (c_L_tree : Cal P w K mg base CX0 2 "_law_tree" ["_law_stream_here", "_law_pairs"] (sp_L_tree K mg))
    (c_L_stream : Cal P w K mg base CX0 1 "_law_stream" ["_law_script"] (sp_L_stream K mg)) : FnOk P w K mg base CX0 6 f fd ["_law_script"] (spLaw K mg) := by
  refine F.ok sc_L_law (fun vs H Q E h => (by obtain ⟨_, _, rfl, _⟩ := h; rfl)) (fun cdv A outer s H vs Q E hr h => ⟨_, (pss_cons (ps_set (i := 1) sc_L_law.nd rfl (.inr rfl) (nCall c_L_stream (hr.mono (by decide)) pass0 (pa_cons (nv 0) pa_nil)))
      (pss_cons (ps_set (i := 2) sc_L_law.nd rfl (.inl rfl) (nCall c_L_tree (hr.mono (by decide)) pass0 (pa_cons (nv 1) (pa_cons (nCall c_L_draw (hr.mono (by decide)) pass0 (pa_cons (nv 1) (pa_cons pe_int pa_nil))) pa_nil))))
      (pss_cons (ps_if (nCmp (oNe (K := K) hr.units) (nCall c_building_constant (hr.mono (by decide)) passL (pa_cons (nv 2) pa_nil)) (pe_lst (pa_cons (pe_tup (pa_cons pe_str (pa_cons pe_int (pa_cons (nv 2) pa_nil)))) pa_nil)) (nomark _)) (pss_one (ps_ret pe_bl)) pss_nil)
      (pss_cons (ps_setLc (i := 3) (own := [("_law_k", 4)]) (g := gName 4) (tt := tYes) rfl sc_L_law.nd rfl rfl (sw_true rfl rfl rfl (by decide +kernel)) (pi_range1 (by rfl) T.n_range (pa_cons (nCall c_L_draw (hr.mono (by decide)) pass0 (pa_cons (nv 1) (pa_cons pe_int pa_nil))) pa_nil)) (blkOk_by (own := [("_law_k", 4)]) (N := ["_law_script", "_law_stream_here", "_law_tree_here", "_law_programs", "_law_k", "_law_given", "_law_program_here", "_law_due", "_law_actual", "_law_held"]) (sc := defScope s_L_law) (by decide +kernel)) (fun _ _ _ _ _ => (pg_name (i := 4) sc_L_law.nd rfl (.inl rfl))) (fun _ _ _ _ _ => pts_nil) (fun _ _ _ _ _ => (nCall c_L_program (hr.mono (by decide)) pass0 (pa_cons (nv 1) (pa_cons pe_int (pa_cons (pe_op (oAdd (K := K)) pe_int (nCall c_L_draw (hr.mono (by decide)) pass0 (pa_cons (nv 1) (pa_cons pe_int pa_nil)))) pa_nil))))))
      (pss_cons (ps_setLc (i := 5) (own := [("_law_program_here", 6)]) (g := gName 6) (tt := tYes) rfl sc_L_law.nd rfl rfl (sw_true rfl rfl rfl (by decide +kernel)) (piAny (K := K) (nv 3)) (blkOk_by (own := [("_law_program_here", 6)]) (N := ["_law_script", "_law_stream_here", "_law_tree_here", "_law_programs", "_law_k", "_law_given", "_law_program_here", "_law_due", "_law_actual", "_law_held"]) (sc := defScope s_L_law) (by decide +kernel)) (fun _ _ _ _ _ => (pg_name (i := 6) sc_L_law.nd rfl (.inl rfl))) (fun _ _ _ _ _ => pts_nil) (fun _ _ _ _ _ => (pe_callTy (cList (K := K)) (by rfl) T.n_list PyProof.Rows.boot_list (pa_cons (nv 6) pa_nil))))
      (pss_cons (ps_set (i := 7) sc_L_law.nd rfl (.inl rfl) (nCall c_L_chain (hr.mono (by decide)) pass0 (pa_cons (nv 3) pa_nil)))
      (pss_cons (ps_set (i := 8) sc_L_law.nd rfl (.inl rfl) (nCall c_building_chain (hr.mono (by decide)) passL (pa_cons (nv 5) pa_nil)))
      (pss_cons (ps_if (PW.pt (pw_or (pt_not (nVal (pe_callB (cIsi (K := K)) (by rfl) T.n_isinstance PyProof.Rows.boot_isinstance (pa_cons (nv 8) (pa_cons (nTy T.n_list PyProof.Rows.boot_list) pa_nil))))) (pw_or (nCmp (oNe (K := K) hr.units) (nv 8) (nv 7) (nomark _)) (pw_or (nCmp (oNe (K := K) hr.units) (nv 5) (nv 3) (nomark _)) (pw_or1 (nCmp oIsNot (nCall c_programs_is_program (hr.mono (by decide)) pass0 (pa_cons (nv 8) pa_nil)) pe_bl (nomark _))))))) (pss_one (ps_ret pe_bl)) pss_nil)
      (pss_cons (ps_expr (pe_bm PySem.F.plainAttrs_list PySem.F.slot_list_append PySem.F.type_list_append mt_append (nv 8) (pa_cons pe_int pa_nil)))
      (pss_cons (ps_set (i := 9) sc_L_law.nd rfl (.inl rfl) (nCall c_building_constant (hr.mono (by decide)) passL (pa_cons (nv 2) pa_nil)))
      (pss_cons (ps_expr (pe_bm PySem.F.plainAttrs_list PySem.F.slot_list_append PySem.F.type_list_append mt_append (nv 9) (pa_cons pe_int pa_nil)))
      (pss_cons (ps_if (PW.pt (pw_or (nCmp (oNe (K := K) hr.units) (nCall c_building_chain (hr.mono (by decide)) passL (pa_cons (nv 5) pa_nil)) (nv 7) (nomark _)) (pw_or (nCmp (oNe (K := K) hr.units) (nv 5) (nv 3) (nomark _)) (pw_or1 (nCmp (oNe (K := K) hr.units) (nCall c_building_constant (hr.mono (by decide)) passL (pa_cons (nv 2) pa_nil)) (pe_lst (pa_cons (pe_tup (pa_cons pe_str (pa_cons pe_int (pa_cons (nv 2) pa_nil)))) pa_nil)) (nomark _)))))) (pss_one (ps_ret pe_bl)) pss_nil)
      (pss_one (ps_ret (pe_and (pe_cmpR (oEq (K := K) hr.units) (pe_slice (slU (K := K)) (nv 8) (po_some (pe_un un_neg pe_int)) po_none) (pe_lst (pa_cons pe_int pa_nil)) (nomark _)) (pe_one (pe_cmpR (oEq (K := K) hr.units) (pe_slice (slU (K := K)) (nv 9) (po_some (pe_un un_neg pe_int)) po_none) (pe_lst (pa_cons pe_int pa_nil)) (nomark _)))))))))))))))))), ?_⟩)
  obtain ⟨a, ns, rfl, hS, hlen, k⟩ := h
  have hz : sizeLine = 16777216 := sizeLine_eq
  refine ⟨a, ns, rfl, hS, fun s H1 e1 st => ?_⟩
  refine ⟨s, _, rfl, by decide, by decide, st, fun v hv0 hv1 _ => ?_⟩
  obtain ⟨v, rfl⟩ := Int.eq_ofNat_of_zero_le hv0
  refine ⟨s, v, rfl, by omega, st, fun t ht _ => ?_⟩
  have tle := t.enc_len
  refine ⟨t, rfl, by omega, fun c cs H2 e2 nc hc hcP => ?_⟩
  refine ⟨by show 3 ≤ sizeLine; decide, fun q nq => ⟨by show 1 ≤ sizeLine; decide, fun L nL => ?_⟩⟩
  have x1 := Evl.Ex.new (o := .tup [.str ("set" : Str), .int 0, .str (S t.enc)]) nq
  have x2 := Evl.Ex.new (o := .lst [.ref q]) nL
  have hq := x2 _ _ (upd_same (H := H2) (a := q) (o := .tup [.str ("set" : Str), .int 0, .str (S t.enc)]))
  have hcA : PrgAt K (upd (upd H2 q (.tup [.str ("set" : Str), .int 0, .str (S t.enc)])) L (.lst [.ref q])) c [Row.set 0 t] := ⟨cs, .of (x2 _ _ (x1 _ _ hc)), PrgL.mono (x1.trans x2) hcP⟩
  have hLA : PrgAt K (upd (upd H2 q (.tup [.str ("set" : Str), .int 0, .str (S t.enc)])) L (.lst [.ref q])) L [Row.set 0 t] := ⟨_, .of upd_same, .cons ⟨q, rfl, .of hq⟩ .nil⟩
  have st2 := st.mono (e2.trans (x1.trans x2))
  generalize upd (upd H2 q (.tup [.str ("set" : Str), .int 0, .str (S t.enc)])) L (.lst [.ref q]) = H3 at x2 hcA hLA st2 ⊢
  refine ⟨_, _, hcA.dp, hLA.dp, prgD_shaped _, prgD_shaped _, ?_⟩
  rw [SeqAt.eqv_refl _ (SeqAt.canLay_of_shaped (prgD_shaped _))]
  refine ⟨s, _, rfl, by decide, by decide, st2, fun n hn0 hn1 _ => ?_⟩
  obtain ⟨n, rfl⟩ := Int.eq_ofNat_of_zero_le hn0
  refine ⟨_, rfl, by omega, by omega, fun D nD => ?_⟩
  refine lc_range (lo := 0) (n := n) (fun i H' => Ex H3 H' ∧ ∃ ps progs, H' D = some (.lst ps) ∧ progs.length = i ∧ ProgsN K D H' ps progs ∧ ∀ p ∈ progs, Good p) ⟨Evl.Ex.new nD, [], [], upd_same, rfl, .nil, fun p hp => by simp at hp⟩ ?_ ?_
  · rintro i H' hi ⟨ex, ps, progs, hD, hpl, hPs, hgood⟩
    have st4 := st2.mono ex
    refine ⟨rfl, s, _, rfl, by decide, by decide, st4, fun w hw0 hw1 _ => ?_⟩
    obtain ⟨w, rfl⟩ := Int.eq_ofNat_of_zero_le hw0
    refine ⟨s, 6, w + 1, by rw [Int.natCast_add, Int.add_comm]; rfl, by decide, by omega, by omega, st4, fun P H4 xs rows e4 nP hP hL hl hok htr st5 => ?_⟩
    have hD4 := e4 _ _ hD
    have nPD : P ≠ D := fun e => by rw [e, hD] at nP; cases nP
    have pl := hPs.length
    refine ⟨_, hD4, by omega, Evl.Ex.mut (ex.trans e4) nD, ps ++ [.ref P], progs ++ [rows], upd_same, by rw [List.length_append, hpl]; rfl, ?_, ?_⟩
    · have kp : Kp D H' (upd H4 D (.lst (ps ++ [.ref P]))) := (Kp.of e4).upd
      refine paired_app (ProgsN.kp kp hD hPs) (.cons ⟨P, xs, rfl, nPD, by rw [upd_ne nPD]; exact hP, ?_⟩ .nil)
      exact ((Kp.refl D H4).upd).prg hD4 hL
    · intro p hp
      rcases List.mem_append.mp hp with h | h
      · exact hgood p h
      · rw [List.mem_singleton.mp h]
        exact ⟨OkPrg.mono (by omega) hok, hl, htr⟩
  rintro H4 ⟨ex4, ps, progs, hD, hpl, hPs, hgood⟩
  have hpl2 := hPs.length
  refine .inl ⟨⟨ps, .of hD⟩, fun G nG => lc_list (K := K) (a := D) (xs := ps) (fun i H' => Ex H4 H' ∧ ∃ gs, H' G = some (.lst gs) ∧ ProgsN K G H' gs (progs.take i)) ⟨Evl.Ex.new nG, [], upd_same, .nil⟩ (fun i H' _ e => .of (e.1 _ _ hD)) ?_ ?_⟩
  · rintro i x H' hx ⟨ex, gs, hG, hGs⟩
    obtain ⟨rows, hr, q, xs, rfl, nqD, hq, hqP⟩ := paired_get hPs hx
    have gl := hGs.length
    rw [List.length_take] at gl
    refine ⟨rfl, _, .l (ex _ _ hq), fun l nl => ?_⟩
    have xn := Evl.Ex.new (o := .lst xs) nl
    have nlG : l ≠ G := fun e => by rw [e, hG] at nl; cases nl
    refine ⟨_, xn _ _ hG, by omega, Evl.Ex.mut (ex.trans xn) nG, gs ++ [.ref l], upd_same, ?_⟩
    have ht : progs.take (i + 1) = progs.take i ++ [rows] := by rw [List.take_add_one, hr]; rfl
    rw [ht]
    refine paired_app (ProgsN.kp (Kp.of xn).upd hG hGs) (.cons ⟨l, xs, rfl, nlG, by rw [upd_ne nlG]; exact upd_same, ?_⟩ .nil)
    exact ((Kp.refl G _).upd).prg (xn _ _ hG) (PrgL.mono (ex.trans xn) hqP)
  rintro H5 ⟨ex5, gs, hG, hGs⟩
  rw [hpl2, List.take_length] at hGs
  have hP5 : Progs K H5 ps progs := Progs.mono ex5 hPs.progs
  have hG5 : Progs K H5 gs progs := hGs.progs
  have hD5 := ex5 _ _ hD
  have hw : ∀ rows ∈ progs, rows.length ≤ 100 ∧ wd rows ≤ 16 := fun rows hr => by
    obtain ⟨h1, h2, h3⟩ := hgood rows hr
    exact ⟨by omega, wd_le (by decide) h1.regs⟩
  refine ⟨D, ps, progs, rfl, hD5, hP5, by omega, hw, fun U us H6 e6 nU hU hUP => ?_⟩
  obtain ⟨hok, htc⟩ := chain_prog (by omega) hgood
  have hask : ∀ r ∈ chainR 0 progs, ∀ t, r.tree = some t → t.enc.length ≤ 10000000 := fun r hr t e => by
    have := htc r hr t e
    have := t.enc_len
    omega
  have hgl := hGs.length
  refine ⟨G, gs, progs, rfl, .of (e6 _ _ hG), Progs.mono e6 hG5, by omega, hw, hok, hask, fun b bs H7 e7 nb7 hb hbP => ?_⟩
  have hbA : PrgAt K H7 b (chainR 0 progs) := ⟨bs, .of hb, hbP⟩
  have hUA : PrgAt K H7 U (chainR 0 progs) := ⟨us, .of (e7 _ _ hU), PrgL.mono e7 hUP⟩
  refine ⟨_, true, sql_ty (.of hb), rfl, ?_⟩
  refine ⟨_, _, hbA.dp, hUA.dp, prgD_shaped _, prgD_shaped _, ?_⟩
  rw [SeqAt.eqv_refl _ (SeqAt.canLay_of_shaped (prgD_shaped _))]
  have e67 := e6.trans e7
  have dpG : ∀ H', Ex H5 H' → Dp K H' (.ref G) (progsD progs) := fun H' e => .lst (.of (e _ _ hG)) (progs_dpAll (Progs.mono e hG5))
  have dpD : ∀ H', Ex H5 H' → Dp K H' (.ref D) (progsD progs) := fun H' e => .lst (.of (e _ _ hD5)) (progs_dpAll (Progs.mono e hP5))
  refine ⟨_, _, dpG _ e67, dpD _ e67, progsD_shaped _, progsD_shaped _, ?_⟩
  rw [SeqAt.eqv_refl _ (SeqAt.canLay_of_shaped (progsD_shaped _))]
  refine ⟨.ref b, prgD (chainR 0 progs), rfl, hbA.dp, prg_ask hask, fun H8 e8 => ?_⟩
  rw [hok]
  have hb8 := e8 _ _ hb
  have hcl := chain_len6 progs 0 hgood
  have hbl : bs.length = (chainR 0 progs).length := hbP.length
  refine ⟨.inl ⟨rfl, _, .of hb8⟩, b, _, _, rfl, rfl, hb8, by omega, ?_⟩
  have eA : Ex H6 (upd H8 b (.lst (bs ++ [.int 0]))) := Evl.Ex.mut (e7.trans e8) nb7
  have hbA2 : (upd H8 b (.lst (bs ++ [.int 0]))) b = some (.lst (bs ++ [.int 0])) := upd_same
  generalize upd H8 b (.lst (bs ++ [.int 0])) = H9 at eA hbA2 ⊢
  refine ⟨t, rfl, by omega, fun h hs H10 e10 nh hh hhP => ?_⟩
  have hhl : hs.length = 1 := hhP.length
  refine ⟨.inl ⟨rfl, _, .of hh⟩, h, _, _, rfl, rfl, hh, by omega, ?_⟩
  have eB : Ex H9 (upd H10 h (.lst (hs ++ [.int 0]))) := Evl.Ex.mut e10 nh
  have hhB : (upd H10 h (.lst (hs ++ [.int 0]))) h = some (.lst (hs ++ [.int 0])) := upd_same
  generalize upd H10 h (.lst (hs ++ [.int 0])) = H11 at eB hhB ⊢
  have eAB := eA.trans eB
  have e611 := e6.trans eAB
  refine ⟨G, gs, progs, rfl, .of (e611 _ _ hG), Progs.mono e611 hG5, by omega, hw, hok, hask, fun c2 c2s H12 e12 nc2 hc2 hc2P => ?_⟩
  have hcA2 : PrgAt K H12 c2 (chainR 0 progs) := ⟨c2s, .of hc2, hc2P⟩
  have hUA2 : PrgAt K H12 U (chainR 0 progs) := ⟨us, .of ((eAB.trans e12) _ _ hU), PrgL.mono (eAB.trans e12) hUP⟩
  refine ⟨_, _, hcA2.dp, hUA2.dp, prgD_shaped _, prgD_shaped _, ?_⟩
  rw [SeqAt.eqv_refl _ (SeqAt.canLay_of_shaped (prgD_shaped _))]
  have e612 := e611.trans e12
  refine ⟨_, _, dpG _ e612, dpD _ e612, progsD_shaped _, progsD_shaped _, ?_⟩
  rw [SeqAt.eqv_refl _ (SeqAt.canLay_of_shaped (progsD_shaped _))]
  refine ⟨t, rfl, by omega, fun c3 c3s H13 e13 nc3 hc3 hc3P => ?_⟩
  refine ⟨by show 3 ≤ sizeLine; decide, fun q2 nq2 => ⟨by show 1 ≤ sizeLine; decide, fun L2 nL2 => ?_⟩⟩
  have y1 := Evl.Ex.new (o := .tup [.str ("set" : Str), .int 0, .str (S t.enc)]) nq2
  have y2 := Evl.Ex.new (o := .lst [.ref q2]) nL2
  have hq2 := y2 _ _ (upd_same (H := H13) (a := q2) (o := .tup [.str ("set" : Str), .int 0, .str (S t.enc)]))
  have hL2 : PrgAt K (upd (upd H13 q2 (.tup [.str ("set" : Str), .int 0, .str (S t.enc)])) L2 (.lst [.ref q2])) L2 [Row.set 0 t] := ⟨_, .of upd_same, .cons ⟨q2, rfl, .of hq2⟩ .nil⟩
  have y := e13.trans (y1.trans y2)
  have hc3A : PrgAt K (upd (upd H13 q2 (.tup [.str ("set" : Str), .int 0, .str (S t.enc)])) L2 (.lst [.ref q2])) c3 [Row.set 0 t] := ⟨c3s, .of (y2 _ _ (y1 _ _ hc3)), PrgL.mono (y1.trans y2) hc3P⟩
  generalize upd (upd H13 q2 (.tup [.str ("set" : Str), .int 0, .str (S t.enc)])) L2 (.lst [.ref q2]) = H14 at y hL2 hc3A ⊢
  refine ⟨_, _, hc3A.dp, hL2.dp, prgD_shaped _, prgD_shaped _, ?_⟩
  rw [SeqAt.eqv_refl _ (SeqAt.canLay_of_shaped (prgD_shaped _))]
  have hb14 := (e12.trans y) _ _ (eB _ _ hbA2)
  have hh14 := (e12.trans y) _ _ hhB
  refine ⟨_, rfl, _, rfl, ?_⟩
  refine .inl ⟨b, _, rfl, .of hb14, fun s1 ns1 => ?_⟩
  rw [last_cut]
  refine ⟨by show 1 ≤ sizeLine; decide, fun z1 nz1 => ?_⟩
  have w1 := Evl.Ex.new (o := .lst [.int 0]) ns1
  have w2 := Evl.Ex.new (o := .lst [.int 0]) nz1
  have dS : Dp K (upd (upd H14 s1 (.lst [.int 0])) z1 (.lst [.int 0])) (.ref s1) (.list [.int 0]) := .lst (.of (w2 _ _ upd_same)) (.cons (.int 0) .nil)
  have dZ : Dp K (upd (upd H14 s1 (.lst [.int 0])) z1 (.lst [.int 0])) (.ref z1) (.list [.int 0]) := .lst (.of upd_same) (.cons (.int 0) .nil)
  have hh15 := (w1.trans w2) _ _ hh14
  generalize upd (upd H14 s1 (.lst [.int 0])) z1 (.lst [.int 0]) = H15 at dS dZ hh15 ⊢
  have sh : SeqAt.shaped (.list [.int 0]) = true := by decide
  refine ⟨_, _, dS, dZ, sh, sh, ?_⟩
  rw [SeqAt.eqv_refl _ (SeqAt.canLay_of_shaped sh)]
  refine ⟨_, rfl, ?_⟩
  refine ⟨_, rfl, _, rfl, ?_⟩
  refine .inl ⟨h, _, rfl, .of hh15, fun s1 ns1 => ?_⟩
  rw [last_cut]
  refine ⟨by show 1 ≤ sizeLine; decide, fun z1 nz1 => ?_⟩
  have w1 := Evl.Ex.new (o := .lst [.int 0]) ns1
  have w2 := Evl.Ex.new (o := .lst [.int 0]) nz1
  have dS : Dp K (upd (upd H15 s1 (.lst [.int 0])) z1 (.lst [.int 0])) (.ref s1) (.list [.int 0]) := .lst (.of (w2 _ _ upd_same)) (.cons (.int 0) .nil)
  have dZ : Dp K (upd (upd H15 s1 (.lst [.int 0])) z1 (.lst [.int 0])) (.ref z1) (.list [.int 0]) := .lst (.of upd_same) (.cons (.int 0) .nil)
  refine ⟨_, _, dS, dZ, sh, sh, ?_⟩
  rw [SeqAt.eqv_refl _ (SeqAt.canLay_of_shaped sh)]
  exact k _
end
theorem all_ok {P : Program} {w : World} {K : PySem.W.Frag} {mg : Str → Option Value} {base : Heap} {f : Addr} {fd : FuncData} (T : Txt K mg w) (F : Fun K "law" "law" s_L_law f fd) : FnOk P w K mg base CX0 6 f fd ["_law_script"] (spLaw K mg) := by
  have c_programs_is_whole := ok_programs_is_whole (P := P) (w := w) (base := base) T 
  have c_trees_is_tree := ok_trees_is_tree (P := P) (w := w) (base := base) T 
  have c_programs_is_instruction := ok_programs_is_instruction (P := P) (w := w) (base := base) T c_programs_is_whole c_trees_is_tree
  have c_programs_is_program := ok_programs_is_program (P := P) (w := w) (base := base) T c_programs_is_instruction
  have c_building_checked := ok_building_checked (P := P) (w := w) (base := base) T c_programs_is_program
  have c_building_constant := ok_building_constant (P := P) (w := w) (base := base) T c_building_checked
  have c_programs_registers_of := ok_programs_registers_of (P := P) (w := w) (base := base) T 
  have c_programs_width := ok_programs_width (P := P) (w := w) (base := base) T c_programs_registers_of
  have c_building_cleaning := ok_building_cleaning (P := P) (w := w) (base := base) T c_programs_width
  have c_building_widest := ok_building_widest (P := P) (w := w) (base := base) T c_programs_width
  have c_building_chain := ok_building_chain (P := P) (w := w) (base := base) T c_building_checked c_building_cleaning c_building_widest
  have c_L_width := ok_L_width (P := P) (w := w) (base := base) T 
  have c_L_cleaning := ok_L_cleaning (P := P) (w := w) (base := base) T c_L_width
  have c_L_chain := ok_L_chain (P := P) (w := w) (base := base) T c_L_cleaning
  have c_L_draw := ok_L_draw (P := P) (w := w) (base := base) T 
  have c_L_tree := ok_L_tree (P := P) (w := w) (base := base) T c_L_draw
  have c_L_program := ok_L_program (P := P) (w := w) (base := base) T c_L_tree c_L_draw
  have c_L_stream := ok_L_stream (P := P) (w := w) (base := base) T 
  exact ok_L_law T F c_building_constant c_building_chain c_programs_is_program c_L_chain c_L_draw c_L_program c_L_tree c_L_stream
theorem fin_mk {P : Program} {w : World} {K : PySem.W.Frag} {h : Heap} {mg : Str → Option Value} {fa : Addr} (X : K.In h) (G : h.Ns mainGlobals mg) (hfa : mg "law" = some (.ref fa))
    {C1 : Addr} (a1 : PySem.W.nsIn K mainGlobals "NarcissusError" = some (some (.ref C1))) (x1 : PySem.W.excIn K C1 [.type "ValueError", .type "Exception", .type "BaseException", .type "object"] "ValueError.__new__" = true) (k1 : PySem.W.keepIn K (.ref C1) = true) (s1 : PySem.W.subIn K (.ref C1) (.type "BaseException") = some true) (t1 : PySem.W.typeIn K (.ref C1) = some (.type "type")) (i1 : PySem.W.isClsIn K C1 = true)
    {C2 : Addr} (a2 : PySem.W.nsIn K mainGlobals "TooLarge" = some (some (.ref C2))) (x2 : PySem.W.excIn K C2 [.type "ValueError", .type "Exception", .type "BaseException", .type "object"] "ValueError.__new__" = true) (k2 : PySem.W.keepIn K (.ref C2) = true) (s2 : PySem.W.subIn K (.ref C2) (.type "BaseException") = some true) (t2 : PySem.W.typeIn K (.ref C2) = some (.type "type")) (i2 : PySem.W.isClsIn K C2 = true)
    {C3 : Addr} (a3 : PySem.W.nsIn K mainGlobals "TooWide" = some (some (.ref C3))) (x3 : PySem.W.excIn K C3 [.type "ValueError", .type "Exception", .type "BaseException", .type "object"] "ValueError.__new__" = true) (k3 : PySem.W.keepIn K (.ref C3) = true) (s3 : PySem.W.subIn K (.ref C3) (.type "BaseException") = some true) (t3 : PySem.W.typeIn K (.ref C3) = some (.type "type")) (i3 : PySem.W.isClsIn K C3 = true)
    {tk4 : Tok} (z4 : PySem.W.nsIn K mainGlobals "LEAF" = some (some (.str "0" tk4)))
    {tk5 : Tok} (z5 : PySem.W.nsIn K mainGlobals "MOST_CODE" = some (some (.int 600 tk5)))
    {tk6 : Tok} (z6 : PySem.W.nsIn K mainGlobals "MOST_TREE" = some (some (.int 200000 tk6)))
    {tk7 : Tok} (z7 : PySem.W.nsIn K mainGlobals "MOST_WIDTH" = some (some (.int 16 tk7)))
    {d8 : Addr} {es8 : Array DictEntry} {nn8 : Nat} {td8_0 td8_1 td8_2 td8_3 td8_4 td8_5 : Tok} (z8 : PySem.W.nsIn K mainGlobals "PARTS" = some (some (.ref d8))) (y8 : K.lookup d8 = some ⟨.type "dict", none, .dict es8 nn8, #[]⟩) (u8 : PySem.W.KeysLit w.params es8.toList) (v8 : (d8 == sysModules) = false)
    (o8_0 : PySem.W.nsIn K d8 "set" = some (some (.int 3 td8_0)))
    (o8_1 : PySem.W.nsIn K d8 "move" = some (some (.int 3 td8_1)))
    (o8_2 : PySem.W.nsIn K d8 "cons" = some (some (.int 4 td8_2)))
    (o8_3 : PySem.W.nsIn K d8 "head" = some (some (.int 3 td8_3)))
    (o8_4 : PySem.W.nsIn K d8 "tail" = some (some (.int 3 td8_4)))
    (o8_5 : PySem.W.nsIn K d8 "jump" = some (some (.int 3 td8_5)))
    {tk9 : Tok} (z9 : PySem.W.nsIn K mainGlobals "REGISTERS" = some (some (.int 20 tk9)))
    {a10 : Addr} {tq10_0 tq10_1 tq10_2 tq10_3 tq10_4 tq10_5 : Tok} {dd10 : Option Addr} {nn10 : Nat} {sl10 : Array (Option Value)} (z10 : PySem.W.nsIn K mainGlobals "WORDS" = some (some (.ref a10))) (y10 : K.lookup a10 = some ⟨.type "tuple", dd10, .seq #[.str "set" tq10_0, .str "move" tq10_1, .str "cons" tq10_2, .str "head" tq10_3, .str "tail" tq10_4, .str "jump" tq10_5] nn10, sl10⟩)
    (z11 : PySem.W.nsIn K mainGlobals "abs" = some none)
    (z12 : PySem.W.nsIn K mainGlobals "all" = some none)
    (z13 : PySem.W.nsIn K mainGlobals "bool" = some none)
    (z14 : PySem.W.nsIn K mainGlobals "enumerate" = some none)
    (z15 : PySem.W.nsIn K mainGlobals "int" = some none)
    (z16 : PySem.W.nsIn K mainGlobals "isinstance" = some none)
    (z17 : PySem.W.nsIn K mainGlobals "len" = some none)
    (z18 : PySem.W.nsIn K mainGlobals "list" = some none)
    (z19 : PySem.W.nsIn K mainGlobals "max" = some none)
    (z20 : PySem.W.nsIn K mainGlobals "range" = some none)
    (z21 : PySem.W.nsIn K mainGlobals "str" = some none)
    (z22 : PySem.W.nsIn K mainGlobals "sum" = some none)
    (z23 : PySem.W.nsIn K mainGlobals "tuple" = some none)
    {f24 : Addr} {od24 an24 : Option Addr} {sl24 : Array (Option Value)} {oc24 kV24 dc24 pm24 cd24 ct24 : Value}
    (a24 : PySem.W.nsIn K mainGlobals "is_whole" = some (some (.ref f24))) (l24 : K.lookup f24 = some ⟨oc24, od24, .func (PySem.W.fnOf "is_whole" "is_whole" (defArgs s_programs_is_whole) (defBody s_programs_is_whole) (defScope s_programs_is_whole) .none kV24 dc24 pm24 an24 cd24 ct24), sl24⟩) (c24 : PySem.W.codeIn K cd24 "is_whole" = true) (k24 : PySem.W.keepIn K (.ref f24) = true)
    {f25 : Addr} {od25 an25 : Option Addr} {sl25 : Array (Option Value)} {oc25 kV25 dc25 pm25 cd25 ct25 : Value}
    (a25 : PySem.W.nsIn K mainGlobals "is_tree" = some (some (.ref f25))) (l25 : K.lookup f25 = some ⟨oc25, od25, .func (PySem.W.fnOf "is_tree" "is_tree" (defArgs s_trees_is_tree) (defBody s_trees_is_tree) (defScope s_trees_is_tree) .none kV25 dc25 pm25 an25 cd25 ct25), sl25⟩) (c25 : PySem.W.codeIn K cd25 "is_tree" = true) (k25 : PySem.W.keepIn K (.ref f25) = true)
    {f26 : Addr} {od26 an26 : Option Addr} {sl26 : Array (Option Value)} {oc26 kV26 dc26 pm26 cd26 ct26 : Value}
    (a26 : PySem.W.nsIn K mainGlobals "is_instruction" = some (some (.ref f26))) (l26 : K.lookup f26 = some ⟨oc26, od26, .func (PySem.W.fnOf "is_instruction" "is_instruction" (defArgs s_programs_is_instruction) (defBody s_programs_is_instruction) (defScope s_programs_is_instruction) .none kV26 dc26 pm26 an26 cd26 ct26), sl26⟩) (c26 : PySem.W.codeIn K cd26 "is_instruction" = true) (k26 : PySem.W.keepIn K (.ref f26) = true)
    {f27 : Addr} {od27 an27 : Option Addr} {sl27 : Array (Option Value)} {oc27 kV27 dc27 pm27 cd27 ct27 : Value}
    (a27 : PySem.W.nsIn K mainGlobals "is_program" = some (some (.ref f27))) (l27 : K.lookup f27 = some ⟨oc27, od27, .func (PySem.W.fnOf "is_program" "is_program" (defArgs s_programs_is_program) (defBody s_programs_is_program) (defScope s_programs_is_program) .none kV27 dc27 pm27 an27 cd27 ct27), sl27⟩) (c27 : PySem.W.codeIn K cd27 "is_program" = true) (k27 : PySem.W.keepIn K (.ref f27) = true)
    {f28 : Addr} {od28 an28 : Option Addr} {sl28 : Array (Option Value)} {oc28 kV28 dc28 pm28 cd28 ct28 : Value}
    (a28 : PySem.W.nsIn K mainGlobals "checked" = some (some (.ref f28))) (l28 : K.lookup f28 = some ⟨oc28, od28, .func (PySem.W.fnOf "checked" "checked" (defArgs s_building_checked) (defBody s_building_checked) (defScope s_building_checked) .none kV28 dc28 pm28 an28 cd28 ct28), sl28⟩) (c28 : PySem.W.codeIn K cd28 "checked" = true) (k28 : PySem.W.keepIn K (.ref f28) = true)
    {f29 : Addr} {od29 an29 : Option Addr} {sl29 : Array (Option Value)} {oc29 kV29 dc29 pm29 cd29 ct29 : Value}
    (a29 : PySem.W.nsIn K mainGlobals "constant" = some (some (.ref f29))) (l29 : K.lookup f29 = some ⟨oc29, od29, .func (PySem.W.fnOf "constant" "constant" (defArgs s_building_constant) (defBody s_building_constant) (defScope s_building_constant) .none kV29 dc29 pm29 an29 cd29 ct29), sl29⟩) (c29 : PySem.W.codeIn K cd29 "constant" = true) (k29 : PySem.W.keepIn K (.ref f29) = true)
    {f30 : Addr} {od30 an30 : Option Addr} {sl30 : Array (Option Value)} {oc30 kV30 dc30 pm30 cd30 ct30 : Value}
    (a30 : PySem.W.nsIn K mainGlobals "registers_of" = some (some (.ref f30))) (l30 : K.lookup f30 = some ⟨oc30, od30, .func (PySem.W.fnOf "registers_of" "registers_of" (defArgs s_programs_registers_of) (defBody s_programs_registers_of) (defScope s_programs_registers_of) .none kV30 dc30 pm30 an30 cd30 ct30), sl30⟩) (c30 : PySem.W.codeIn K cd30 "registers_of" = true) (k30 : PySem.W.keepIn K (.ref f30) = true)
    {f31 : Addr} {od31 an31 : Option Addr} {sl31 : Array (Option Value)} {oc31 kV31 dc31 pm31 cd31 ct31 : Value}
    (a31 : PySem.W.nsIn K mainGlobals "width" = some (some (.ref f31))) (l31 : K.lookup f31 = some ⟨oc31, od31, .func (PySem.W.fnOf "width" "width" (defArgs s_programs_width) (defBody s_programs_width) (defScope s_programs_width) .none kV31 dc31 pm31 an31 cd31 ct31), sl31⟩) (c31 : PySem.W.codeIn K cd31 "width" = true) (k31 : PySem.W.keepIn K (.ref f31) = true)
    {f32 : Addr} {od32 an32 : Option Addr} {sl32 : Array (Option Value)} {oc32 kV32 dc32 pm32 cd32 ct32 : Value}
    (a32 : PySem.W.nsIn K mainGlobals "cleaning" = some (some (.ref f32))) (l32 : K.lookup f32 = some ⟨oc32, od32, .func (PySem.W.fnOf "cleaning" "cleaning" (defArgs s_building_cleaning) (defBody s_building_cleaning) (defScope s_building_cleaning) .none kV32 dc32 pm32 an32 cd32 ct32), sl32⟩) (c32 : PySem.W.codeIn K cd32 "cleaning" = true) (k32 : PySem.W.keepIn K (.ref f32) = true)
    {f33 : Addr} {od33 an33 : Option Addr} {sl33 : Array (Option Value)} {oc33 kV33 dc33 pm33 cd33 ct33 : Value}
    (a33 : PySem.W.nsIn K mainGlobals "widest" = some (some (.ref f33))) (l33 : K.lookup f33 = some ⟨oc33, od33, .func (PySem.W.fnOf "widest" "widest" (defArgs s_building_widest) (defBody s_building_widest) (defScope s_building_widest) .none kV33 dc33 pm33 an33 cd33 ct33), sl33⟩) (c33 : PySem.W.codeIn K cd33 "widest" = true) (k33 : PySem.W.keepIn K (.ref f33) = true)
    {f34 : Addr} {od34 an34 : Option Addr} {sl34 : Array (Option Value)} {oc34 kV34 dc34 pm34 cd34 ct34 : Value}
    (a34 : PySem.W.nsIn K mainGlobals "chain" = some (some (.ref f34))) (l34 : K.lookup f34 = some ⟨oc34, od34, .func (PySem.W.fnOf "chain" "chain" (defArgs s_building_chain) (defBody s_building_chain) (defScope s_building_chain) .none kV34 dc34 pm34 an34 cd34 ct34), sl34⟩) (c34 : PySem.W.codeIn K cd34 "chain" = true) (k34 : PySem.W.keepIn K (.ref f34) = true)
    {f35 : Addr} {od35 an35 : Option Addr} {sl35 : Array (Option Value)} {oc35 kV35 dc35 pm35 cd35 ct35 : Value}
    (a35 : PySem.W.nsIn K mainGlobals "_law_width" = some (some (.ref f35))) (l35 : K.lookup f35 = some ⟨oc35, od35, .func (PySem.W.fnOf "_law_width" "_law_width" (defArgs s_L_width) (defBody s_L_width) (defScope s_L_width) .none kV35 dc35 pm35 an35 cd35 ct35), sl35⟩) (c35 : PySem.W.codeIn K cd35 "_law_width" = true) (k35 : PySem.W.keepIn K (.ref f35) = true)
    {f36 : Addr} {od36 an36 : Option Addr} {sl36 : Array (Option Value)} {oc36 kV36 dc36 pm36 cd36 ct36 : Value}
    (a36 : PySem.W.nsIn K mainGlobals "_law_cleaning" = some (some (.ref f36))) (l36 : K.lookup f36 = some ⟨oc36, od36, .func (PySem.W.fnOf "_law_cleaning" "_law_cleaning" (defArgs s_L_cleaning) (defBody s_L_cleaning) (defScope s_L_cleaning) .none kV36 dc36 pm36 an36 cd36 ct36), sl36⟩) (c36 : PySem.W.codeIn K cd36 "_law_cleaning" = true) (k36 : PySem.W.keepIn K (.ref f36) = true)
    {f37 : Addr} {od37 an37 : Option Addr} {sl37 : Array (Option Value)} {oc37 kV37 dc37 pm37 cd37 ct37 : Value}
    (a37 : PySem.W.nsIn K mainGlobals "_law_chain" = some (some (.ref f37))) (l37 : K.lookup f37 = some ⟨oc37, od37, .func (PySem.W.fnOf "_law_chain" "_law_chain" (defArgs s_L_chain) (defBody s_L_chain) (defScope s_L_chain) .none kV37 dc37 pm37 an37 cd37 ct37), sl37⟩) (c37 : PySem.W.codeIn K cd37 "_law_chain" = true) (k37 : PySem.W.keepIn K (.ref f37) = true)
    {f38 : Addr} {od38 an38 : Option Addr} {sl38 : Array (Option Value)} {oc38 kV38 dc38 pm38 cd38 ct38 : Value}
    (a38 : PySem.W.nsIn K mainGlobals "_law_draw" = some (some (.ref f38))) (l38 : K.lookup f38 = some ⟨oc38, od38, .func (PySem.W.fnOf "_law_draw" "_law_draw" (defArgs s_L_draw) (defBody s_L_draw) (defScope s_L_draw) .none kV38 dc38 pm38 an38 cd38 ct38), sl38⟩) (c38 : PySem.W.codeIn K cd38 "_law_draw" = true) (k38 : PySem.W.keepIn K (.ref f38) = true)
    {f39 : Addr} {od39 an39 : Option Addr} {sl39 : Array (Option Value)} {oc39 kV39 dc39 pm39 cd39 ct39 : Value}
    (a39 : PySem.W.nsIn K mainGlobals "_law_tree" = some (some (.ref f39))) (l39 : K.lookup f39 = some ⟨oc39, od39, .func (PySem.W.fnOf "_law_tree" "_law_tree" (defArgs s_L_tree) (defBody s_L_tree) (defScope s_L_tree) .none kV39 dc39 pm39 an39 cd39 ct39), sl39⟩) (c39 : PySem.W.codeIn K cd39 "_law_tree" = true) (k39 : PySem.W.keepIn K (.ref f39) = true)
    {f40 : Addr} {od40 an40 : Option Addr} {sl40 : Array (Option Value)} {oc40 kV40 dc40 pm40 cd40 ct40 : Value}
    (a40 : PySem.W.nsIn K mainGlobals "_law_program" = some (some (.ref f40))) (l40 : K.lookup f40 = some ⟨oc40, od40, .func (PySem.W.fnOf "_law_program" "_law_program" (defArgs s_L_program) (defBody s_L_program) (defScope s_L_program) .none kV40 dc40 pm40 an40 cd40 ct40), sl40⟩) (c40 : PySem.W.codeIn K cd40 "_law_program" = true) (k40 : PySem.W.keepIn K (.ref f40) = true)
    {f41 : Addr} {od41 an41 : Option Addr} {sl41 : Array (Option Value)} {oc41 kV41 dc41 pm41 cd41 ct41 : Value}
    (a41 : PySem.W.nsIn K mainGlobals "_law_stream" = some (some (.ref f41))) (l41 : K.lookup f41 = some ⟨oc41, od41, .func (PySem.W.fnOf "_law_stream" "_law_stream" (defArgs s_L_stream) (defBody s_L_stream) (defScope s_L_stream) .none kV41 dc41 pm41 an41 cd41 ct41), sl41⟩) (c41 : PySem.W.codeIn K cd41 "_law_stream" = true) (k41 : PySem.W.keepIn K (.ref f41) = true)
    {f0 : Addr} {od0 an0 : Option Addr} {sl0 : Array (Option Value)} {oc0 kV0 dc0 pm0 cd0 ct0 : Value}
    (a0 : PySem.W.nsIn K mainGlobals "law" = some (some (.ref f0))) (l0 : K.lookup f0 = some ⟨oc0, od0, .func (PySem.W.fnOf "law" "law" (defArgs s_L_law) (defBody s_L_law) (defScope s_L_law) .none kV0 dc0 pm0 an0 cd0 ct0), sl0⟩) (c0 : PySem.W.codeIn K cd0 "law" = true) (k0 : PySem.W.keepIn K (.ref f0) = true)
    : ∃ fd : FuncData, (∀ (s : Shared) (u : Value), BindsTo s fd ⟨[u], []⟩ [("_law_script", u)]) ∧ ∀ base : Heap, K.In base → base.Ns mainGlobals mg → FnOk P w K mg base CX0 6 fa fd ["_law_script"] (spLaw K mg) := by
  have e := hfa.symm.trans (PySem.W.mg_of X G a0)
  cases e
  exact ⟨PySem.W.fnOf "law" "law" (defArgs s_L_law) (defBody s_L_law) (defScope s_L_law) .none kV0 dc0 pm0 an0 cd0 ct0, fun s u => .of_eq rfl, fun base _ _ => all_ok (txt_mk X G a1 x1 k1 s1 t1 i1 a2 x2 k2 s2 t2 i2 a3 x3 k3 s3 t3 i3 z4 z5 z6 z7 z8 y8 u8 v8 o8_0 o8_1 o8_2 o8_3 o8_4 o8_5 z9 z10 y10 z11 z12 z13 z14 z15 z16 z17 z18 z19 z20 z21 z22 z23 a24 l24 c24 k24 a25 l25 c25 k25 a26 l26 c26 k26 a27 l27 c27 k27 a28 l28 c28 k28 a29 l29 c29 k29 a30 l30 c30 k30 a31 l31 c31 k31 a32 l32 c32 k32 a33 l33 c33 k33 a34 l34 c34 k34 a35 l35 c35 k35 a36 l36 c36 k36 a37 l37 c37 k37 a38 l38 c38 k38 a39 l39 c39 k39 a40 l40 c40 k40 a41 l41 c41 k41) (L2.fun_mk l0 c0 k0)⟩
end NV
open PySem PySem.W PyProof.Rows in
set_option maxRecDepth 100000 in
set_option maxHeartbeats 0 in
theorem PySem.Challenge.cw_narcissus_k14_chains_holds : PySem.Challenge.rw_narcissus_k14_chains.Holds := by
  w_on; o_law; k_head; (case hw => w_witness2)
  k_fill
  refine NV.walk_law (l := PySem.Challenge.rw_narcissus_k14_chains) (k := 6) rfl rfl (by decide) (fun w h Y => PySem.W.kIn_of Y) ?F
  case F =>
    intro w mg fa h KX G hmg
    refine' NV.fin_mk KX G hmg ?a1 ?x1 ?k1 ?s1 ?t1 ?i1 ?a2 ?x2 ?k2 ?s2 ?t2 ?i2 ?a3 ?x3 ?k3 ?s3 ?t3 ?i3 ?z4 ?z5 ?z6 ?z7 ?z8 ?y8 ?u8 ?v8 ?o8_0 ?o8_1 ?o8_2 ?o8_3 ?o8_4 ?o8_5 ?z9 ?z10 ?y10 ?z11 ?z12 ?z13 ?z14 ?z15 ?z16 ?z17 ?z18 ?z19 ?z20 ?z21 ?z22 ?z23 ?a24 ?l24 ?c24 ?k24 ?a25 ?l25 ?c25 ?k25 ?a26 ?l26 ?c26 ?k26 ?a27 ?l27 ?c27 ?k27 ?a28 ?l28 ?c28 ?k28 ?a29 ?l29 ?c29 ?k29 ?a30 ?l30 ?c30 ?k30 ?a31 ?l31 ?c31 ?k31 ?a32 ?l32 ?c32 ?k32 ?a33 ?l33 ?c33 ?k33 ?a34 ?l34 ?c34 ?k34 ?a35 ?l35 ?c35 ?k35 ?a36 ?l36 ?c36 ?k36 ?a37 ?l37 ?c37 ?k37 ?a38 ?l38 ?c38 ?k38 ?a39 ?l39 ?c39 ?k39 ?a40 ?l40 ?c40 ?k40 ?a41 ?l41 ?c41 ?k41 ?a0 ?l0 ?c0 ?k0
    (case a1 => k_is)
    (case x1 => k_exc)
    (case k1 => k_is)
    (case s1 => k_is)
    (case t1 => k_is)
    (case i1 => k_is)
    (case a2 => k_is)
    (case x2 => k_exc)
    (case k2 => k_is)
    (case s2 => k_is)
    (case t2 => k_is)
    (case i2 => k_is)
    (case a3 => k_is)
    (case x3 => k_exc)
    (case k3 => k_is)
    (case s3 => k_is)
    (case t3 => k_is)
    (case i3 => k_is)
    (case z4 => k_is)
    (case z5 => k_is)
    (case z6 => k_is)
    (case z7 => k_is)
    (case z8 => k_is)
    (case y8 => k_is)
    (case u8 => exact ⟨⟨_, _, rfl, rfl⟩, ⟨_, _, rfl, rfl⟩, ⟨_, _, rfl, rfl⟩, ⟨_, _, rfl, rfl⟩, ⟨_, _, rfl, rfl⟩, ⟨_, _, rfl, rfl⟩, True.intro⟩)
    (case v8 => first | rfl | decide)
    (case o8_0 => k_is)
    (case o8_1 => k_is)
    (case o8_2 => k_is)
    (case o8_3 => k_is)
    (case o8_4 => k_is)
    (case o8_5 => k_is)
    (case z9 => k_is)
    (case z10 => k_is)
    (case y10 => k_is)
    (case z11 => k_is)
    (case z12 => k_is)
    (case z13 => k_is)
    (case z14 => k_is)
    (case z15 => k_is)
    (case z16 => k_is)
    (case z17 => k_is)
    (case z18 => k_is)
    (case z19 => k_is)
    (case z20 => k_is)
    (case z21 => k_is)
    (case z22 => k_is)
    (case z23 => k_is)
    (case a24 => k_is)
    (case l24 => k_is)
    (case c24 => k_is)
    (case k24 => k_is)
    (case a25 => k_is)
    (case l25 => k_is)
    (case c25 => k_is)
    (case k25 => k_is)
    (case a26 => k_is)
    (case l26 => k_is)
    (case c26 => k_is)
    (case k26 => k_is)
    (case a27 => k_is)
    (case l27 => k_is)
    (case c27 => k_is)
    (case k27 => k_is)
    (case a28 => k_is)
    (case l28 => k_is)
    (case c28 => k_is)
    (case k28 => k_is)
    (case a29 => k_is)
    (case l29 => k_is)
    (case c29 => k_is)
    (case k29 => k_is)
    (case a30 => k_is)
    (case l30 => k_is)
    (case c30 => k_is)
    (case k30 => k_is)
    (case a31 => k_is)
    (case l31 => k_is)
    (case c31 => k_is)
    (case k31 => k_is)
    (case a32 => k_is)
    (case l32 => k_is)
    (case c32 => k_is)
    (case k32 => k_is)
    (case a33 => k_is)
    (case l33 => k_is)
    (case c33 => k_is)
    (case k33 => k_is)
    (case a34 => k_is)
    (case l34 => k_is)
    (case c34 => k_is)
    (case k34 => k_is)
    (case a35 => k_is)
    (case l35 => k_is)
    (case c35 => k_is)
    (case k35 => k_is)
    (case a36 => k_is)
    (case l36 => k_is)
    (case c36 => k_is)
    (case k36 => k_is)
    (case a37 => k_is)
    (case l37 => k_is)
    (case c37 => k_is)
    (case k37 => k_is)
    (case a38 => k_is)
    (case l38 => k_is)
    (case c38 => k_is)
    (case k38 => k_is)
    (case a39 => k_is)
    (case l39 => k_is)
    (case c39 => k_is)
    (case k39 => k_is)
    (case a40 => k_is)
    (case l40 => k_is)
    (case c40 => k_is)
    (case k40 => k_is)
    (case a41 => k_is)
    (case l41 => k_is)
    (case c41 => k_is)
    (case k41 => k_is)
    (case a0 => k_is)
    (case l0 => k_is)
    (case c0 => k_is)
    (case k0 => k_is)
#print axioms PySem.Challenge.cw_narcissus_k14_chains_holds

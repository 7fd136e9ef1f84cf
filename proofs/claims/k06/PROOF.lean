import PyProof.Rows.All
import Wide.All
import OpenK.AllK
import Wide.FinOn
import HandS.ForMost
import HandS.ForExc
import HandS.TupAny
import HandS.TupMul
import HandS.IsInst
import HandS.Style
import HandS.Rev
import HandS.RevRange
import HandS.Evl
import HandS.ExcIs
import HandS.More
import HandS.Zip
import PyProof.StrOps2
import PySem.Challenge.RW_narcissus_k06_is_program
set_option Elab.async false
set_option linter.all false
set_option maxRecDepth 100000
set_option maxHeartbeats 4000000
set_option Elab.async false
set_option linter.all false
set_option maxRecDepth 100000
set_option maxHeartbeats 4000000
/-! # universal operators: readings that follow the values -/
namespace NV
open PySem PySem.Spec PyProof.Rows L2
section
variable {X : Cx}
theorem PEwk {e : Expr} {t t' : TE} (h : PE X e t) (w : ∀ σ H Q, t' σ H Q → t σ H Q) : PE X e t' :=
  ⟨fun p s σ H Q I q => h.run p s σ H Q I (w _ _ _ q)⟩
theorem PTwk {e : Expr} {t t' : TT} (h : PT X e t) (w : ∀ σ H Q, t' σ H Q → t σ H Q) : PT X e t' :=
  ⟨fun p s σ H Q I q => h.run p s σ H Q I (w _ _ _ q)⟩
theorem OpWk {f : Value → Value → Sem Value} {r r' : R2} (h : OpR X f r) (w : ∀ x y H Q, r' x y H Q → r x y H Q) : OpR X f r' :=
  fun pins s σ H x y v u Q I rx ry q => h pins s σ H x y v u Q I rx ry (w _ _ _ _ q)
theorem CallWk {f : Value} {r r' : List V → Hp → VK → Prop} (h : CallR X f r) (w : ∀ xs H Q, r' xs H Q → r xs H Q) : CallR X f r' :=
  fun pins s σ H xs us Q I r q => h pins s σ H xs us Q I r (w _ _ _ q)
/-! ### a name -/
def mV (i : Nat) : TE := fun σ H Q => match σ[i]? with
  | some (some v) => Q v H
  | _ => False
theorem nv (i : Nat) {x : Str} {pos : Pos} (hN : X.N[i]? = some x := by rfl) (hv : Vis X.env.scope x := by first | exact Or.inl rfl | exact Or.inr (Or.inl rfl) | exact Or.inr (Or.inr rfl)) (hd : (x == ("__debug__" : Str)) = false := by decide)
    (hcd : (x == ("__classdict__" : Str)) = false := by decide) : PE X (.Name x pos) (mV i) := PEwk (pe_var hN hv hd hcd) fun σ H Q h => by
  unfold mV at h
  split at h
  · exact ⟨_, by assumption, h⟩
  · exact h.elim
/-! ### a list or a tuple that is read -/
def SqA (K : PySem.W.Frag) (H : Hp) (a : Addr) (xs : List V) : Prop := SqL K H a xs ∨ SqT K H a xs
theorem SqA.l {K : PySem.W.Frag} {H : Hp} {a : Addr} {xs : List V} (h : H a = some (.lst xs)) : SqA K H a xs := .inl (.of h)
theorem SqA.t {K : PySem.W.Frag} {H : Hp} {a : Addr} {xs : List V} (h : H a = some (.tup xs)) : SqA K H a xs := .inr (.of h)
/-! ### + - * // % -/
def rAddU (K : PySem.W.Frag) : R2 := fun x y H Q => match x, y with
  | .int i, .int j => Q (.int (i + j)) H
  | .int i, .bl k => Q (.int (i + b2i k)) H
  | .str a, .str b => a.length + b.length ≤ sizeLine ∧ Q (.str (a ++ b)) H
  | .ref a, .ref b => rCat (.ref a) (.ref b) H Q ∨ rCatA K (.ref a) (.ref b) H Q
  | _, _ => False
theorem oAdd {K : PySem.W.Frag} (hK : X.K = K := by rfl) : OpR X (binaryOp .Add) (rAddU K) := fun pins s σ H x y v u Q I rx ry h => by
  subst hK
  cases x <;> cases y <;> first
    | exact op_add pins s σ H _ _ v u Q I rx ry ⟨_, _, rfl, rfl, h⟩
    | exact op_add_ib pins s σ H _ _ v u Q I rx ry ⟨_, _, rfl, rfl, h⟩
    | exact op_add_str pins s σ H _ _ v u Q I rx ry ⟨_, _, rfl, rfl, h.1, h.2⟩
    | exact h.elim (fun h => op_cat pins s σ H _ _ v u Q I rx ry h) (fun h => op_catA pins s σ H _ _ v u Q I rx ry h)
    | exact False.elim h
def rSubU : R2 := fun x y H Q => match x, y with
  | .int i, .int j => Q (.int (i - j)) H
  | _, _ => False
theorem oSub : OpR X (binaryOp .Sub) rSubU := fun pins s σ H x y v u Q I rx ry h => by
  cases x <;> cases y <;> first
    | exact op_sub pins s σ H _ _ v u Q I rx ry ⟨_, _, rfl, rfl, h⟩
    | exact False.elim h
/-- the text z, n times -/
def repS (z : Str) (n : Nat) : Str := ⟨(List.replicate n z.cps.toList).flatten.toArray⟩
theorem foldl_repS (z : List Nat) : ∀ (n : Nat) (acc : List Nat), (List.replicate n z.toArray).foldl (fun x y => x ++ y) acc.toArray = (acc ++ (List.replicate n z).flatten).toArray := by
  intro n
  induction n with
  | zero => intro acc; simp
  | succ n ih =>
    intro acc
    rw [List.replicate_succ, List.foldl_cons, List.append_toArray, ih, List.replicate_succ, List.flatten_cons, List.append_assoc]
def rMulU (K : PySem.W.Frag) : R2 := fun x y H Q => match x, y with
  | .int i, .int j => CMul i j ∧ Q (.int (i * j)) H
  | .str a, .int n => (-(2 ^ 63) < n ∧ n < 2 ^ 62 ∧ a.length * n.toNat ≤ 10000000) ∧ Q (.str (repS a n.toNat)) H
  | .ref a, .int n => rRep (.ref a) (.int n) H Q ∨ rRepT K (.ref a) (.int n) H Q
  | _, _ => False
theorem repS_one (z : Str) : repS z 1 = z := by
  obtain ⟨⟨l⟩⟩ := z
  unfold repS
  rw [List.replicate_one, List.flatten_singleton]
theorem repS_nil (n : Nat) (z : Str) (h : z.length = 0) : repS z n = z := by
  obtain ⟨⟨l⟩⟩ := z
  have e : l = [] := List.length_eq_zero_iff.mp h
  subst e
  unfold repS
  rw [List.flatten_replicate_nil]
theorem repS_length (z : Str) (n : Nat) : (repS z n).length = z.length * n := by
  obtain ⟨⟨l⟩⟩ := z
  show (List.replicate n l).flatten.toArray.size = l.length * n
  rw [List.size_toArray, List.length_flatten, List.map_replicate, List.sum_replicate_nat, Nat.mul_comm]
theorem oMul {K : PySem.W.Frag} (hK : X.K = K := by rfl) : OpR X (binaryOp .Mult) (rMulU K) := fun pins s σ H x y v u Q I rx ry h => by
  subst hK
  cases x <;> cases y <;> first
    | exact op_mul pins s σ H _ _ v u Q I rx ry ⟨_, _, rfl, rfl, h.1, h.2⟩
    | exact h.elim (fun h => op_rep pins s σ H _ _ v u Q I rx ry h) (fun h => op_repT pins s σ H _ _ v u Q I rx ry h)
    | exact False.elim h
    | skip
  rename_i a n
  obtain ⟨⟨h1, h2, h3⟩, q⟩ := h
  obtain ⟨t, rfl⟩ := rx
  obtain ⟨t', rfl⟩ := ry
  have hz : sizeLine = 16777216 := sizeLine_eq
  by_cases hn : n < 1
  · have e : n.toNat = 0 := by omega
    rw [e] at q
    exact PySem.P.mul_str_none hn (by omega) ⟨.str (repS a 0), H, I.tok _, ⟨_, rfl⟩, q⟩
  · refine PySem.P.mul_str (by rw [decide_eq_false (by omega), decide_eq_false (by omega)]; rfl) (fun _ hc => ?_) (fun _ _ => ?_) ?_
    · have hl : 0 < a.length := by
        rw [Bool.or_eq_false_iff] at hc
        have := hc.2
        rw [beq_eq_false_iff_ne] at this
        omega
      intro hgt
      have hn0 : (0 : Int) < n := by omega
      have h5 : (a.length : Int) * n ≤ 10000000 := by
        have e : ((a.length * n.toNat : Nat) : Int) = (a.length : Int) * n := by
          rw [Int.natCast_mul, Int.toNat_of_nonneg (by omega)]
        rw [← e]
        exact Int.ofNat_le.mpr h3
      have h6 : (2 ^ 63 - 1) / n * n ≤ 2 ^ 63 - 1 := Int.ediv_mul_le _ (by omega)
      have h7 : (2 ^ 63 - 1) / n < (a.length : Int) := hgt
      have h9 : n ≤ 10000000 := by
        have : (1 : Int) * n ≤ (a.length : Int) * n := Int.mul_le_mul_of_nonneg_right (by omega) (by omega)
        omega
      have h10 : (a.length : Int) ≤ 10000000 := by
        have : (a.length : Int) * 1 ≤ (a.length : Int) * n := Int.mul_le_mul_of_nonneg_left (by omega) (by omega)
        omega
      have h11 : (2 ^ 63 - 1) / n ≥ 10000000 := by
        refine Int.le_ediv_of_mul_le hn0 ?_
        have : 10000000 * n ≤ 10000000 * 10000000 := Int.mul_le_mul_of_nonneg_left h9 (by omega)
        omega
      omega
    · show decide (a.length * n.toNat > sizeLine) = false
      exact decide_eq_false (by omega)
    · rw [if_neg hn]
      by_cases hc : (n == 1 || a.length == 0) = true
      · rw [if_pos hc]
        have e : repS a n.toNat = a := by
          rw [Bool.or_eq_true] at hc
          rcases hc with hc | hc
          · have : n = 1 := by simpa using hc
            rw [this]
            exact repS_one a
          · exact repS_nil _ _ (by simpa using hc)
        rw [e] at q
        exact ⟨.str a, H, I, ⟨_, rfl⟩, q⟩
      · rw [if_neg hc]
        have e : (⟨(List.replicate n.toNat a.cps).foldl (· ++ ·) #[]⟩ : Str) = repS a n.toNat := by
          have := foldl_repS a.cps.toList n.toNat []
          rw [List.nil_append] at this
          unfold repS
          rw [← this]
        rw [e]
        exact ⟨by rw [repS_length]; omega, .str (repS a n.toNat), H, I.tok _, ⟨_, rfl⟩, q⟩
def rDivU : R2 := fun x y H Q => match x, y with
  | .int i, .int j => CDiv i j ∧ Q (.int (i / j)) H
  | _, _ => False
theorem oDiv : OpR X (binaryOp .FloorDiv) rDivU := fun pins s σ H x y v u Q I rx ry h => by
  cases x <;> cases y <;> first
    | exact op_fdiv pins s σ H _ _ v u Q I rx ry ⟨_, _, rfl, rfl, h.1, h.2⟩
    | exact False.elim h
def rModU : R2 := fun x y H Q => match x, y with
  | .int i, .int j => 0 < j ∧ Q (.int (i % j)) H
  | _, _ => False
theorem oMod : OpR X (binaryOp .Mod) rModU := fun pins s σ H x y v u Q I rx ry h => by
  cases x <;> cases y <;> first
    | exact op_mod pins s σ H _ _ v u Q I rx ry ⟨_, _, rfl, rfl, h.1, h.2⟩
    | exact False.elim h
/-! ### comparisons -/
def rEqU (K : PySem.W.Frag) : R2 := fun x y H Q => match scal x y with
  | true => Q (.bl (decide (x = y))) H
  | false => rEqD K x y H Q
theorem oEq {K : PySem.W.Frag} (hu : X.A.units + 64 < cLine) (hK : X.K = K := by rfl) : OpR X (compareOp .Eq) (rEqU K) := fun pins s σ H x y v u Q I rx ry h => by
  subst hK
  unfold rEqU at h
  cases e : scal x y with
  | true => rw [e] at h; exact op_eq pins s σ H _ _ v u Q I rx ry ⟨e, h⟩
  | false => rw [e] at h; exact op_eqD hu pins s σ H _ _ v u Q I rx ry h
def rNeU (K : PySem.W.Frag) : R2 := fun x y H Q => match scal x y with
  | true => Q (.bl (!decide (x = y))) H
  | false => rNeD K x y H Q
theorem oNe {K : PySem.W.Frag} (hu : X.A.units + 64 < cLine) (hK : X.K = K := by rfl) : OpR X (compareOp .NotEq) (rNeU K) := fun pins s σ H x y v u Q I rx ry h => by
  subst hK
  unfold rNeU at h
  cases e : scal x y with
  | true => rw [e] at h; exact op_ne pins s σ H _ _ v u Q I rx ry ⟨e, h⟩
  | false => rw [e] at h; exact op_neD hu pins s σ H _ _ v u Q I rx ry h
def rCI (p : Int → Int → Bool) : R2 := fun x y H Q => match x, y with
  | .int i, .int j => Q (.bl (p i j)) H
  | _, _ => False
theorem oLt : OpR X (compareOp .Lt) (rCI fun i j => decide (i < j)) := fun pins s σ H x y v u Q I rx ry h => by
  cases x <;> cases y <;> first
    | exact op_lt pins s σ H _ _ v u Q I rx ry ⟨_, _, rfl, rfl, h⟩
    | exact False.elim h
theorem oLe : OpR X (compareOp .LtE) (rCI fun i j => decide (i ≤ j)) := fun pins s σ H x y v u Q I rx ry h => by
  cases x <;> cases y <;> first
    | exact op_le pins s σ H _ _ v u Q I rx ry ⟨_, _, rfl, rfl, h⟩
    | exact False.elim h
theorem oGt : OpR X (compareOp .Gt) (rCI fun i j => decide (j < i)) := fun pins s σ H x y v u Q I rx ry h => by
  cases x <;> cases y <;> first
    | exact op_gt pins s σ H _ _ v u Q I rx ry ⟨_, _, rfl, rfl, h⟩
    | exact False.elim h
theorem oGe : OpR X (compareOp .GtE) (rCI fun i j => decide (j ≤ i)) := fun pins s σ H x y v u Q I rx ry h => by
  cases x <;> cases y <;> first
    | exact op_ge pins s σ H _ _ v u Q I rx ry ⟨_, _, rfl, rfl, h⟩
    | exact False.elim h
def rIsU : R2 := fun x y H Q => match x, y with
  | .bl a, .bl b => Q (.bl (decide (a = b))) H
  | _, .non => Q (.bl (decide (x = .non))) H
  | _, _ => False
theorem oIs : OpR X (compareOp .Is) rIsU := fun pins s σ H x y v u Q I rx ry h => by
  cases y with
  | non => exact op_isN pins s σ H _ _ v u Q I rx ry ⟨rfl, by cases x <;> exact h⟩
  | bl b =>
    cases x with
    | bl a => exact op_isBl pins s σ H _ _ v u Q I rx ry ⟨a, b, rfl, rfl, h⟩
    | _ => exact False.elim h
  | _ => cases x <;> exact False.elim h
def rIsNotU : R2 := fun x y H Q => match x, y with
  | .bl a, .bl b => Q (.bl (!decide (a = b))) H
  | _, .non => Q (.bl (!decide (x = .non))) H
  | _, _ => False
theorem oIsNot : OpR X (compareOp .IsNot) rIsNotU := fun pins s σ H x y v u Q I rx ry h => by
  cases y with
  | non => exact op_notN pins s σ H _ _ v u Q I rx ry ⟨rfl, by cases x <;> exact h⟩
  | bl b =>
    cases x with
    | bl a => exact op_notBl pins s σ H _ _ v u Q I rx ry ⟨a, b, rfl, rfl, h⟩
    | _ => exact False.elim h
  | _ => cases x <;> exact False.elim h
def rInU (K : PySem.W.Frag) : R2 := fun x y H Q => match y with
  | .str z => ∃ c, x = .str ⟨#[c]⟩ ∧ Q (.bl (decide (c ∈ z.cps.toList))) H
  | .ref p => ∃ xs, SqA K H p xs ∧ flatV x = true ∧ xs.all flatV = true ∧ Q (.bl (inV x xs)) H
  | _ => False
theorem oIn {K : PySem.W.Frag} (hK : X.K = K := by rfl) : OpR X (compareOp .In) (rInU K) := fun pins s σ H x y v u Q I rx ry h => by
  subst hK
  cases y with
  | str z =>
    obtain ⟨c, e, q⟩ := h
    exact op_in_sign pins s σ H _ _ v u Q I rx ry ⟨c, z, e, rfl, q⟩
  | ref p =>
    obtain ⟨xs, hs, h1, h2, q⟩ := h
    exact op_in_seq pins s σ H _ _ v u Q I rx ry ⟨p, xs, rfl, hs, h1, h2, q⟩
  | _ => exact False.elim h
def rNotInU (K : PySem.W.Frag) : R2 := fun x y H Q => match y with
  | .str z => ∃ c, x = .str ⟨#[c]⟩ ∧ Q (.bl (!decide (c ∈ z.cps.toList))) H
  | .ref p => ∃ xs, SqA K H p xs ∧ flatV x = true ∧ xs.all flatV = true ∧ Q (.bl (!inV x xs)) H
  | _ => False
theorem oNotIn {K : PySem.W.Frag} (hK : X.K = K := by rfl) : OpR X (compareOp .NotIn) (rNotInU K) := fun pins s σ H x y v u Q I rx ry h => by
  subst hK
  cases y with
  | str z =>
    obtain ⟨c, e, q⟩ := h
    exact op_notIn_sign pins s σ H _ _ v u Q I rx ry ⟨c, z, e, rfl, q⟩
  | ref p =>
    obtain ⟨xs, hs, h1, h2, q⟩ := h
    exact op_notIn_seq pins s σ H _ _ v u Q I rx ry ⟨p, xs, rfl, hs, h1, h2, q⟩
  | _ => exact False.elim h
/-- in a tuple of tuples -/
def rInDT (K : PySem.W.Frag) : R2 := fun x y H Q => ∃ d ds, Dp K H x d ∧ Dp K H y (.tuple ds) ∧ SeqAt.shaped d = true ∧ SeqAt.shaped (.tuple ds) = true ∧ Q (.bl (ds.any fun z => PyData.eqv z d)) H
theorem oInD {K : PySem.W.Frag} {k : Nat} (hr : Room k X.A) (hK : X.K = K := by rfl) : OpR X (compareOp .In) (rInDT K) := by
  subst hK
  intro pins s σ H x y v u Q I rx ry h
  obtain ⟨d, ds, hd, he, sd, se, q⟩ := h
  obtain ⟨as, r1⟩ := Dp.reads I d x v hd rx
  obtain ⟨bs, r2⟩ := Dp.reads I (.tuple ds) y u he ry
  exact SeqAt.in_tuple_reads r2 r1 (SeqAt.canLay_of_shaped se) (SeqAt.canLay_of_shaped sd) (room_in_shaped sd (by have := hr.un; omega)) ⟨.bl _, H, I, rfl, q⟩
/-! ### x[i], x[a:b] -/
def rIxU (K : PySem.W.Frag) : R2 := fun x y H Q => match x, y with
  | .str z, .int i => z.length ≤ sizeLine ∧ ∃ c, atI z.cps.toList i = some c ∧ Q (.str ⟨#[c]⟩) H
  | .ref p, .int i => ∃ xs v, SqA K H p xs ∧ atI xs i = some v ∧ Q v H
  | _, _ => False
theorem ixU {K : PySem.W.Frag} (hK : X.K = K := by rfl) : IxR X (rIxU K) := fun a b pins s σ H x y v u Q I rx ry h hs => by
  subst hK
  refine ix_seq a b pins s σ H x y v u Q I rx ry ?_ hs
  cases x <;> cases y <;> first
    | (exact False.elim h)
    | (obtain ⟨hz, c, e, q⟩ := h; exact Or.inr (Or.inr ⟨_, _, c, rfl, rfl, hz, e, q⟩))
    | (obtain ⟨xs, v, hq, e, q⟩ := h
       rcases hq with hq | hq
       · exact Or.inl ⟨_, xs, _, v, rfl, rfl, hq, e, q⟩
       · exact Or.inr (Or.inl ⟨_, xs, _, v, rfl, rfl, hq, e, q⟩))
def rSlU (K : PySem.W.Frag) : V → Option Int → Option Int → Hp → VK → Prop := fun x lo hi H Q => match x with
  | .str z => z.length ≤ sizeLine ∧ Q (.str (cutS z lo hi)) H
  | .ref a => rSlL K (.ref a) lo hi H Q ∨ rSlA K (.ref a) lo hi H Q
  | _ => False
theorem slU {K : PySem.W.Frag} (hK : X.K = K := by rfl) : SlR X (rSlU K) := by
  subst hK
  intro pins s σ H x v vl vu lo hi sl Q I rx hs pl pu h
  cases x with
  | str z => exact sl_str pins s σ H _ v vl vu lo hi sl Q I rx hs pl pu ⟨z, rfl, h.1, h.2⟩
  | ref a =>
    rcases h with h | h
    · exact sl_list pins s σ H _ v vl vu lo hi sl Q I rx hs pl pu h
    · exact sl_tupA pins s σ H _ v vl vu lo hi sl Q I rx hs pl pu h
  | _ => exact False.elim h
/-! ### built-in calls -/
def rLenU (K : PySem.W.Frag) : List V → Hp → VK → Prop := fun vs H Q => match vs with
  | [.str z] => z.length ≤ sizeLine ∧ Q (.int z.length) H
  | [.ref p] => ∃ xs, SqA K H p xs ∧ Q (.int xs.length) H
  | _ => False
theorem cLen {K : PySem.W.Frag} (hK : X.K = K := by rfl) : CallR X (.builtin "len") (rLenU K) := by
  subst hK
  refine CallWk call_len ?_
  intro vs H Q h
  unfold rLenU at h
  split at h
  · exact ⟨_, _, rfl, ⟨h.1, rfl⟩, h.2⟩
  · obtain ⟨xs, hq, q⟩ := h
    rcases hq with hq | hq
    · exact ⟨_, _, rfl, .inl ⟨xs, hq, rfl⟩, q⟩
    · exact ⟨_, _, rfl, .inr ⟨xs, hq, rfl⟩, q⟩
  · exact h.elim
def rIntU : List V → Hp → VK → Prop := fun vs H Q => match vs with
  | [.int i] => Q (.int i) H
  | [.bl k] => Q (.int (if k then 1 else 0)) H
  | _ => False
theorem cInt : CallR X (.type "int") rIntU := CallWk call_int1 fun vs H Q h => by
  unfold rIntU at h
  split at h
  · exact .inl ⟨_, rfl, h⟩
  · exact .inr ⟨_, rfl, h⟩
  · exact h.elim
def rAbsU : List V → Hp → VK → Prop := fun vs H Q => match vs with
  | [.int i] => Q (.int (if i < 0 then -i else i)) H
  | _ => False
theorem cAbs : CallR X (.builtin "abs") rAbsU := CallWk call_abs fun vs H Q h => by
  unfold rAbsU at h
  split at h
  · exact ⟨_, rfl, h⟩
  · exact h.elim
def rListU (K : PySem.W.Frag) : List V → Hp → VK → Prop := fun vs H Q => match vs with
  | [.ref p] => ∃ ys, SqA K H p ys ∧ ∀ l, H l = none → Q (.ref l) (upd H l (.lst ys))
  | _ => False
theorem cList {K : PySem.W.Frag} (hK : X.K = K := by rfl) : CallR X (.type "list") (rListU K) := by
  subst hK
  refine CallWk call_list_of ?_
  intro vs H Q h
  unfold rListU at h
  split at h
  · obtain ⟨ys, hq, q⟩ := h
    exact ⟨_, ys, rfl, hq, q⟩
  · exact h.elim
def rTupU (K : PySem.W.Frag) : List V → Hp → VK → Prop := fun vs H Q => match vs with
  | [.ref p] => ∃ ys, SqL K H p ys ∧ ∀ l, H l = none → Q (.ref l) (upd H l (.tup ys))
  | _ => False
theorem cTup {K : PySem.W.Frag} (hK : X.K = K := by rfl) : CallR X (.type "tuple") (rTupU K) := by
  subst hK
  refine CallWk call_tuple_of ?_
  intro vs H Q h
  unfold rTupU at h
  split at h
  · obtain ⟨ys, hq, q⟩ := h
    exact ⟨_, ys, rfl, .inl ⟨hq, q⟩⟩
  · exact h.elim
/-- isinstance(x, T), T a built-in class -/
def rIsiU (K : PySem.W.Frag) : List V → Hp → VK → Prop := fun vs H Q => match vs with
  | [.non, .ty n] => ∃ b, kitB "NoneType" n = some b ∧ Q (.bl b) H
  | [.bl _, .ty n] => ∃ b, kitB "bool" n = some b ∧ Q (.bl b) H
  | [.int _, .ty n] => ∃ b, kitB "int" n = some b ∧ Q (.bl b) H
  | [.str _, .ty n] => ∃ b, kitB "str" n = some b ∧ Q (.bl b) H
  | [.ref p, .ty n] => ∃ T b, TyX K H (.ref p) (.type T) ∧ kitB T n = some b ∧ Q (.bl b) H
  | _ => False
theorem cIsi {K : PySem.W.Frag} (hK : X.K = K := by rfl) : CallR X (.builtin "isinstance") (rIsiU K) := by
  subst hK
  refine CallWk call_isi ?_
  intro vs H Q h
  unfold rIsiU at h
  split at h
  · obtain ⟨b, e, q⟩ := h; exact ⟨_, _, _, _, b, rfl, .ty _, .base .non, kit_ty e, q⟩
  · obtain ⟨b, e, q⟩ := h; exact ⟨_, _, _, _, b, rfl, .ty _, .base (.bl _), kit_ty e, q⟩
  · obtain ⟨b, e, q⟩ := h; exact ⟨_, _, _, _, b, rfl, .ty _, .base (.int _), kit_ty e, q⟩
  · obtain ⟨b, e, q⟩ := h; exact ⟨_, _, _, _, b, rfl, .ty _, .base (.str _), kit_ty e, q⟩
  · obtain ⟨T, b, ty, e, q⟩ := h; exact ⟨_, _, _, _, b, rfl, .ty _, ty, kit_ty e, q⟩
  · exact h.elim
/-! ### tests -/
/-- a bool as a test -/
def mT (t : TE) : TT := fun σ H Q => t σ H fun x H' => match x with
  | .bl b => Q b H'
  | _ => False
theorem isB (Q : Bool → Hp → Prop) : (fun (x : V) (H' : Hp) => match x with | .bl b => Q b H' | _ => False) = (fun x H' => ∃ k, x = .bl k ∧ Q k H') := by
  funext x H'
  cases x with
  | bl b => exact propext ⟨fun h => ⟨b, rfl, h⟩, fun ⟨k, e, h⟩ => by cases e; exact h⟩
  | _ => exact propext ⟨fun h => h.elim, fun ⟨k, e, h⟩ => by cases e⟩
theorem nCmp {a b : Expr} {op : CmpOp} {r : R2} {ta tb : TE} {pos : Pos} (ho : OpR X (compareOp op) r) (ha : PE X a ta) (hb : PE X b tb) (hm : behindInMarks op b = false) : PT X (.Compare a [op] [b] pos) (mT (tOp r ta tb)) :=
  PTwk (pt_cmpR ho ha hb hm) fun σ H Q h => by
    unfold mT at h
    rw [isB] at h
    exact h
theorem nVal {e : Expr} {te : TE} (h : PE X e te) (he : ∀ whole, isTrue e X.env whole = (do let v ← whole; standAt e.pos; holding [v] (truthy v)) := by intro _; rfl) : PT X e (mT te) :=
  PTwk (pt_val h he) fun σ H Q h => by
    unfold mT at h
    rw [isB] at h
    exact h
/-! ### what a for walks -/
def iAnyU (K : PySem.W.Frag) (te : TE) : TI := fun σ H R => te σ H fun v H1 => match v with
  | .str z => R (Its z) H1
  | .ref a => ((∃ xs, SqL K H1 a xs) ∧ R (Itl K a) H1) ∨ ((∃ xs, SqT K H1 a xs) ∧ R (Itt K a) H1)
  | _ => False
theorem PIwk {tg iter : Expr} {w w' : TI} (h : PI X tg iter w) (k : ∀ σ H R, w' σ H R → w σ H R) : PI X tg iter w' := ⟨fun p s σ H R I q => h.run p s σ H R I (k _ _ _ q)⟩
theorem piAny {K : PySem.W.Frag} {tg e : Expr} {te : TE} (he : PE X e te) (hK : X.K = K := by rfl) : PI X tg e (iAnyU K te) := by
  subst hK
  refine ⟨fun pins s σ H R I h => ?_⟩
  -- the value is found first; what walks it follows its kind
  have key : ∀ (v : V) (H1 : Hp) (u : Value) (s1 : Shared), Inv X pins σ H1 s1 → RelV v u → (match v with
      | .str z => R (Its z) H1
      | .ref a => ((∃ xs, SqL X.K H1 a xs) ∧ R (Itl X.K a) H1) ∨ ((∃ xs, SqT X.K H1 a xs) ∧ R (Itt X.K a) H1)
      | _ => False) → wpAny (model X.prog X.w) X.A (pyIter u) (PIE X pins σ tg R) X.xe s1 := by
    intro v H1 u s1 I1 r1 q
    cases v with
    | str x =>
      obtain ⟨t, rfl⟩ := r1
      cases ha : x.cps.all (· < 128)
      · exact wpAny_pyIter_wide ha (pi_one (tk := s1.toks) I1 _ (turn_str _ x t "str_iterator" (.inr rfl)) ⟨_, Heap.get?_push_size _ rfl, rfl, rfl⟩ q)
      · exact wpAny_pyIter_ascii ha (pi_one (tk := s1.toks) I1 _ (turn_str _ x t "str_ascii_iterator" (.inl rfl)) ⟨_, Heap.get?_push_size _ rfl, rfl, rfl⟩ q)
    | ref a =>
      cases r1
      rcases q with ⟨⟨xs, hq⟩, q⟩ | ⟨⟨xs, hq⟩, q⟩
      · obtain ⟨its, rv, pl, hz⟩ := I1.list hq
        exact wpAny_pyIter_list pl.isList (pi_one (tk := s1.toks) I1 _ (turn_list a _) ⟨_, Heap.get?_push_size _ rfl, rfl, rfl⟩ q)
      · obtain ⟨its, rv, pl, hz⟩ := I1.tuple hq
        exact wpAny_pyIter_tuple (show s1.heap.IsTuple a its.toArray from pl) (pi_one (tk := s1.toks) I1 _ (turn_tuple a _) ⟨_, Heap.get?_push_size _ rfl, rfl, rfl⟩ q)
    | _ => exact q.elim
  refine thn (he.run pins s σ H _ I h) fun u s1 ⟨v, H1, I1, r1, q⟩ => key v H1 u s1 I1 r1 q
/-! ### a module's constant -/
theorem nGlobI {x : Str} {i : Int} {pos : Pos} (hm : ∃ t, X.mg x = some (.int i t)) (hg : Gl X x := by rfl) (hd : (x == ("__debug__" : Str)) = false := by decide) : PE X (.Name x pos) (tC (.int i)) := by
  obtain ⟨t, hm⟩ := hm
  exact pe_glob hg hm ⟨t, rfl⟩ hd
theorem nGlobS {x z : Str} {pos : Pos} (hm : ∃ t, X.mg x = some (.str z t)) (hg : Gl X x := by rfl) (hd : (x == ("__debug__" : Str)) = false := by decide) : PE X (.Name x pos) (tC (.str z)) := by
  obtain ⟨t, hm⟩ := hm
  exact pe_glob hg hm ⟨t, rfl⟩ hd
/-- a tuple of the module's top -/
def GTup (K : PySem.W.Frag) (mg : Str → Option Value) (x : Str) (xs : List V) : Prop := ∃ a, mg x = some (.ref a) ∧ ∀ H, SqT K H a xs
def mGT (K : PySem.W.Frag) (xs : List V) : TE := fun _ H Q => ∀ a, (∀ H, SqT K H a xs) → Q (.ref a) H
theorem nGlobT {x : Str} {xs : List V} {pos : Pos} (hm : GTup X.K X.mg x xs) (hg : Gl X x := by rfl) (hd : (x == ("__debug__" : Str)) = false := by decide) : PE X (.Name x pos) (mGT X.K xs) := by
  obtain ⟨a, hm, hs⟩ := hm
  exact PEwk (pe_glob hg hm (v := .ref a) rfl hd) fun σ H Q h => h a hs
/-- a dict of the module's top, its keys texts -/
def GDict (K : PySem.W.Frag) (w : World) (mg : Str → Option Value) (x : Str) (kvs : List (Str × V)) : Prop := ∃ d es n, mg x = some (.ref d) ∧ KDict K w d es n ∧ ∀ z v, kvs.lookup z = some v → ∃ u, PySem.W.nsIn K d z = some (some u) ∧ RelV v u
def mDict (kvs : List (Str × V)) (te : TE) : TE := fun σ H Q => te σ H fun y H1 => match y with
  | .str z => (match kvs.lookup z with
    | some v => Q v H1
    | none => False)
  | _ => False
theorem nDict {x : Str} {kvs : List (Str × V)} {i : Expr} {te : TE} {p pos : Pos} (hm : GDict X.K X.w X.mg x kvs) (hi : PE X i te) (hs : PlainIx i) (hg : Gl X x := by rfl) (hd : (x == ("__debug__" : Str)) = false := by decide) : PE X (.Subscript (.Name x p) i pos) (mDict kvs te) := by
  obtain ⟨d, es, n, hm, D, hv⟩ := hm
  have ix : IxR X (fun x y H Q => ∃ z v, x = .ref d ∧ y = .str z ∧ kvs.lookup z = some v ∧ Q v H) := by
    intro value slice pins s σ H x y v u Q I rx ry h hs
    obtain ⟨z, r, rfl, rfl, e, q⟩ := h
    obtain ⟨u0, e1, e2⟩ := hv z r e
    have g := op_item_kd D pins s σ H _ _ v u Q I rx ry ⟨z, u0, r, rfl, rfl, e1, e2, q⟩
    cases rx
    exact PyProof.Rows.tail_any (kd_type D I) PySem.F.slot_dict_getitem.lookup g hs
  refine PEwk (pe_ix ix (pe_glob hg hm (v := .ref d) rfl hd) hi hs) fun σ H Q h => ?_
  have e : (fun (y : V) (H1 : Hp) => match y with | .str z => (match kvs.lookup z with | some v => Q v H1 | none => False) | _ => False) = (fun y H1 => ∃ z v, V.ref d = .ref d ∧ y = .str z ∧ kvs.lookup z = some v ∧ Q v H1) := by
    funext y H1
    cases y with
    | str z =>
      refine propext ⟨fun h => ?_, fun ⟨z', v, _, e1, e2, q⟩ => ?_⟩
      · cases e : kvs.lookup z with
        | none => simp only [e] at h
        | some v => simp only [e] at h; exact ⟨z, v, rfl, rfl, e, h⟩
      · cases e1
        simp only [e2]
        exact q
    | _ => exact propext ⟨fun h => h.elim, fun ⟨z', v, _, e1, _⟩ => by cases e1⟩
  unfold mDict at h
  rw [e] at h
  exact h
theorem gdict_mk {K : PySem.W.Frag} {w : World} {h : Heap} {mg : Str → Option Value} (X : K.In h) (G : h.Ns mainGlobals mg) {x : Str} {kvs : List (Str × V)} {d : Addr} {es : Array DictEntry} {n : Nat} (z : PySem.W.nsIn K mainGlobals x = some (some (.ref d)))
    (y : K.lookup d = some ⟨.type "dict", none, .dict es n, #[]⟩) (u : PySem.W.KeysLit w.params es.toList) (v : (d == sysModules) = false) (hv : ∀ z v, kvs.lookup z = some v → ∃ u, PySem.W.nsIn K d z = some (some u) ∧ RelV v u) : GDict K w mg x kvs :=
  ⟨d, es, n, PySem.W.mg_of X G z, ⟨y, u, v⟩, hv⟩
theorem lookup_all {K : PySem.W.Frag} {d : Addr} : ∀ {kvs : List (Str × V)}, (∀ q ∈ kvs, ∃ u, PySem.W.nsIn K d q.1 = some (some u) ∧ RelV q.2 u) → ∀ z v, kvs.lookup z = some v → ∃ u, PySem.W.nsIn K d z = some (some u) ∧ RelV v u
  | [], _, z, v, h => by cases h
  | (a, b) :: r, hq, z, v, h => by
    rw [List.lookup_cons] at h
    cases q : (z == a) with
    | true =>
      rw [q] at h
      have e1 : z = a := eq_of_beq q
      have e2 : b = v := Option.some.inj h
      rw [e1, ← e2]
      exact hq _ List.mem_cons_self
    | false =>
      rw [q] at h
      exact lookup_all (fun x hx => hq x (List.mem_cons_of_mem _ hx)) z v h
theorem nTy {x : Str} {T : String} {pos : Pos} (hm : X.mg x = none) (hv : bootBuiltins x = some (.type T)) (hg : Gl X x := by rfl) (hn : x ≠ "__name__" := by decide) (hd : (x == ("__debug__" : Str)) = false := by decide) : PE X (.Name x pos) (tC (.ty T)) := pe_bltn hg hm hv (v := .ty T) rfl hn hd
/-! ### exceptions of own classes over ValueError -/
structure ExcK (K : PySem.W.Frag) (mg : Str → Option Value) (x : Str) : Prop where
  ex : ∃ C, mg x = some (.ref C) ∧ PySem.W.excIn K C [.type "ValueError", .type "Exception", .type "BaseException", .type "object"] "ValueError.__new__" = true ∧ PySem.W.keepIn K (.ref C) = true ∧
    PySem.W.subIn K (.ref C) (.type "BaseException") = some true ∧ PySem.W.typeIn K (.ref C) = some (.type "type")
/-- raise X('..') -/
theorem nMk {K : PySem.W.Frag} {mg : Str → Option Value} {x m : Str} {j : Nat} {p p2 pos : Pos} (h : ExcK K mg x) (hM : X.mg = mg := by rfl) (hK : X.K = K := by rfl) (hg : Gl X x := by rfl) (hdb : (x == ("__debug__" : Str)) = false := by decide) : PMk X (.Call (.Name x p) [.Constant (.str m) j p2] [] pos) (fun _ H Q => ∀ cls, mg x = some cls → Q cls none H) := by
  subst hM
  subst hK
  obtain ⟨C, g, e, kp, sb, ty⟩ := h.ex
  intro pins s σ H Q I q
  exact pmk_own PySem.F.excBase_ValueError e g kp (raises_own sb ty) hg hdb pins s σ H Q I (q _ g)
/-- try: .. except X: .. -/
theorem nTryOnly {x : Str} {body suite : List Stmt} {b₀ : Stmt} {np pos pos' : Pos} {tb : WX → TS} {ts : Addr → Value → Option Addr → TS} {Wout : WX} (hs : X.stack = X.env :: X.outer) (hf : X.env.frame = some X.env.locals) (hx : ExcK X.K X.mg x) (tk : Takes X Wout)
    (hb : ∀ (W : WX) (pn : List (Addr × Obj)) (xe : Value → Shared → Prop), Takes (X.tr pn xe) W → PassesOwn (model X.prog X.w) X.A X.env xe → PSs (X.tr pn xe) body (tb W))
    (hsu : ∀ (a : Addr) (oe : Obj) (cls : Value) (d : Option Addr) (pn : List (Addr × Obj)), Zc cls d oe → (∃ vs, oe.data = .fields vs) → PSs (X.suite a ((a, oe) :: pn)) (b₀ :: suite) (ts a cls d)) (hg : Gl X x := by rfl) (hdb : (x == ("__debug__" : Str)) = false := by decide) :
    PS X (.Try body [.ExceptHandler (some (.Name x np)) none (b₀ :: suite) pos'] [] [] pos) (fun D σ H => ∀ c, X.mg x = some c → tb (wOnly X.K c ts Wout D) D σ H) := by
  obtain ⟨C, g, e, kp, sb, ty⟩ := hx.ex
  refine ⟨fun pins s σ H D I h => ?_⟩
  exact (ps_try_only hs hf ⟨hg, hdb, .inl g⟩ tk hb hsu).run pins s σ H D I (h _ g)
theorem nTryAs {x n : Str} {i : Nat} {body suite : List Stmt} {b₀ : Stmt} {np pos pos' : Pos} {tb : WX → TS} {ts : Addr → Value → Option Addr → TS} {Wout : WX} (hs : X.stack = X.env :: X.outer) (hf : X.env.frame = some X.env.locals) (hN : X.N.Nodup) (hi : X.N[i]? = some n) (hln : X.env.kindOf n = some .local) (hx : ExcK X.K X.mg x) (tk : Takes X Wout)
    (hb : ∀ (W : WX) (pn : List (Addr × Obj)) (xe : Value → Shared → Prop), Takes (X.tr pn xe) W → PassesOwn (model X.prog X.w) X.A X.env xe → PSs (X.tr pn xe) body (tb W))
    (hsu : ∀ (a : Addr) (oe : Obj) (cls : Value) (d : Option Addr) (pn : List (Addr × Obj)), Zc cls d oe → (∃ vs, oe.data = .fields vs) → PSs (X.suite a ((a, oe) :: pn)) (b₀ :: suite) (ts a cls d)) (hg : Gl X x := by rfl) (hdb : (x == ("__debug__" : Str)) = false := by decide) :
    PS X (.Try body [.ExceptHandler (some (.Name x np)) (some n) (b₀ :: suite) pos'] [] [] pos) (fun D σ H => ∀ c, X.mg x = some c → tb (wAs X.K c i ts Wout D) D σ H) := by
  obtain ⟨C, g, e, kp, sb, ty⟩ := hx.ex
  refine ⟨fun pins s σ H D I h => ?_⟩
  exact (ps_try_as hs hf hN hi hln ⟨hg, hdb, .inl g⟩ tk hb hsu).run pins s σ H D I (h _ g)
/-- a class of the top as a value -/
theorem nGlobC {K : PySem.W.Frag} {mg : Str → Option Value} {x : Str} {pos : Pos} (h : ExcK K mg x) (hM : X.mg = mg := by rfl) (hg : Gl X x := by rfl) (hd : (x == ("__debug__" : Str)) = false := by decide) : PE X (.Name x pos) (fun _ H Q => ∀ C, mg x = some (.ref C) → Q (.ref C) H) := by
  subst hM
  obtain ⟨C, g, _⟩ := h.ex
  exact PEwk (pe_glob hg g (v := .ref C) rfl hd) fun σ H Q q => q C g
/-- isinstance of the exception that a suite holds -/
def rIsEU (K : PySem.W.Frag) (a : Addr) (cls : Value) (d : Option Addr) : List V → Hp → VK → Prop := fun xs H Q => ∃ D, cls = .ref D ∧ d = none ∧ L2.ExcC K D ∧ rIsE K D a xs H Q
theorem cIsE {K : PySem.W.Frag} {a : Addr} {cls : Value} {d : Option Addr} {oe : Obj} {pn : List (Addr × Obj)} (hz : Zc cls d oe) (hf : ∃ vs, oe.data = .fields vs) (hK : X.K = K := by rfl) : CallR (X.suite a ((a, oe) :: pn)) (.builtin "isinstance") (rIsEU K a cls d) := by
  subst hK
  intro pins s σ H xs us Q I r h
  obtain ⟨D, rfl, rfl, C, h⟩ := h
  exact call_isE C hz hf pins s σ H xs us Q I r h
def IsX (K : PySem.W.Frag) (mg : Str → Option Value) (x : Str) : Prop := ∃ C, mg x = some (.ref C) ∧ L2.ExcC K C
/-- isinstance(an X, the own class Y) -/
def KitX (K : PySem.W.Frag) (mg : Str → Option Value) (x y : Str) (b : Bool) : Prop := ∀ c1 c2, mg x = some c1 → mg y = some c2 → PySem.W.kitOne K c1 c2 = some b
/-- isinstance(an X, the built-in class T) -/
def KitT (K : PySem.W.Frag) (mg : Str → Option Value) (x : Str) (T : String) (b : Bool) : Prop := ∀ c1, mg x = some c1 → PySem.W.kitOne K c1 (.type T) = some b
theorem kitx_mk {K : PySem.W.Frag} {h : Heap} {mg : Str → Option Value} (X : K.In h) (G : h.Ns mainGlobals mg) {x y : Str} {b : Bool} {C S : Addr} (a1 : PySem.W.nsIn K mainGlobals x = some (some (.ref C))) (a2 : PySem.W.nsIn K mainGlobals y = some (some (.ref S)))
    (h2 : PySem.W.isClsIn K S = true) (h3 : PySem.W.typeIn K (.ref S) = some (.type "type")) (h4 : PySem.W.subIn K (.ref C) (.ref S) = some b) (h5 : x = y → b = true) (h6 : C = S → x = y) : KitX K mg x y b := by
  intro c1 c2 e1 e2
  rw [PySem.W.mg_of X G a1] at e1
  rw [PySem.W.mg_of X G a2] at e2
  cases e1
  cases e2
  have q2 : ((PySem.W.clsIn K S).isSome && PySem.W.typeIn K (.ref S) == some (.type "type")) = true := by
    have z : (PySem.W.clsIn K S).isSome = true := h2
    rw [z, h3]; rfl
  show (if (Value.ref C == Value.ref S) = true then some true else if ((PySem.W.clsIn K S).isSome && PySem.W.typeIn K (.ref S) == some (.type "type")) = true then PySem.W.subIn K (.ref C) (.ref S) else none) = some b
  by_cases q : (Value.ref C == Value.ref S) = true
  · rw [if_pos q]
    have : C = S := by
      have := eq_of_beq q
      injection this
    rw [h5 (h6 this)]
  · rw [if_neg q, if_pos q2]
    exact h4
theorem kitt_mk {K : PySem.W.Frag} {h : Heap} {mg : Str → Option Value} (X : K.In h) (G : h.Ns mainGlobals mg) {x : Str} {T : String} {b : Bool} {C : Addr} (a1 : PySem.W.nsIn K mainGlobals x = some (some (.ref C))) (hT : PySem.W.kitMeta T = true)
    (h4 : PySem.W.subIn K (.ref C) (.type T) = some b) : KitT K mg x T b := by
  intro c1 e1
  rw [PySem.W.mg_of X G a1] at e1
  cases e1
  show (if (Value.ref C == Value.type T) = true then some true else if PySem.W.kitMeta T = true then PySem.W.subIn K (.ref C) (.type T) else none) = some b
  rw [if_neg (by intro q; cases q), if_pos hT]
  exact h4
/-- what an except clause of Y says of an exception of the class X -/
def ExM (K : PySem.W.Frag) (mg : Str → Option Value) (x y : Str) (b : Bool) : Prop := ∀ c1 c2, mg x = some c1 → mg y = some c2 → PySem.W.exmOne K c1 c2 = some b
theorem exm_mk {K : PySem.W.Frag} {h : Heap} {mg : Str → Option Value} (X : K.In h) (G : h.Ns mainGlobals mg) {x y : Str} {b : Bool} {C S : Addr} (a1 : PySem.W.nsIn K mainGlobals x = some (some (.ref C))) (a2 : PySem.W.nsIn K mainGlobals y = some (some (.ref S)))
    (h1 : PySem.W.subIn K (.ref S) (.type "BaseException") = some true) (h2 : PySem.W.isClsIn K S = true) (h3 : PySem.W.typeIn K (.ref S) = some (.type "type")) (h4 : PySem.W.subIn K (.ref C) (.ref S) = some b) : ExM K mg x y b := by
  intro c1 c2 e1 e2
  have f1 := PySem.W.mg_of X G a1
  have f2 := PySem.W.mg_of X G a2
  rw [f1] at e1
  rw [f2] at e2
  cases e1
  cases e2
  have q1 : (PySem.W.subIn K (.ref S) (.type "BaseException") == some true) = true := by rw [h1]; rfl
  have q2 : ((PySem.W.clsIn K S).isSome && PySem.W.typeIn K (.ref S) == some (.type "type")) = true := by
    have z : (PySem.W.clsIn K S).isSome = true := h2
    rw [z, h3]; rfl
  show (if (PySem.W.subIn K (.ref S) (.type "BaseException") == some true) = true then (if ((PySem.W.clsIn K S).isSome && PySem.W.typeIn K (.ref S) == some (.type "type")) = true then PySem.W.subIn K (.ref C) (.ref S) else none) else none) = some b
  rw [if_pos q1, if_pos q2]
  exact h4
/-! ### a def that is called -/
end
/-- a def of the top that keeps a promise -/
def Cal (P : Program) (w : World) (K : PySem.W.Frag) (mg : Str → Option Value) (base : Heap) (CX : CXT) (k : Nat) (x : Str) (ps : List Str) (sp : Sp) : Prop :=
  ∃ f fd, mg x = some (.ref f) ∧ PySem.W.keepIn K (.ref f) = true ∧ Binds K fd ps [] ∧ FnOk P w K mg base CX k f fd ps sp
/-- a def of the text, as the top has left it -/
def Fn (K : PySem.W.Frag) (mg : Str → Option Value) (g x : Str) (st : Stmt) (ps : List Str) : Prop :=
  ∃ f fd, mg g = some (.ref f) ∧ Fun K x x st f fd ∧ Binds K fd ps []
section
variable {P : Program} {w : World} {K : PySem.W.Frag} {mg : Str → Option Value} {base : Heap}
theorem Fn.ok {g x : Str} {st : Stmt} {N ps : List Str} {k : Nat} {sp : Sp} (F : Fn K mg g x st ps) (S : FnScope N ps (defScope st)) (len : ∀ vs H Q E, sp vs H Q E → vs.length = ps.length)
    (hbody : ∀ (f : Addr) (cdv : Value) (A : Around) (outer : List Env) (s : Shared) (H : Hp) (vs : List V) (Q : VK) (E : XK), Room k (A.deeper (envOfC x (defScope st) s.heap.objs.size f cdv)) → sp vs H Q E →
      ∃ t, PSs (cxOf CX0 P w K mg base N x (defScope st) f cdv A outer s H E).nox (defBody st) t ∧ t { nx := fun _ H' => Q .non H', rt := Q } (start N vs) H) : Cal P w K mg base CX0 (k + 1) g ps sp := by
  obtain ⟨f, fd, hm, F, b⟩ := F
  exact ⟨f, fd, hm, F.kp, b, F.ok S len fun cdv A outer s H vs Q E hr h => hbody f cdv A outer s H vs Q E hr h⟩
theorem Fn.okX {g x : Str} {st : Stmt} {N ps : List Str} {k : Nat} {sp : Sp} (F : Fn K mg g x st ps) (S : FnScope N ps (defScope st)) (len : ∀ vs H Q E, sp vs H Q E → vs.length = ps.length)
    (hbody : ∀ (f : Addr) (cdv : Value) (A : Around) (outer : List Env) (s : Shared) (H : Hp) (vs : List V) (Q : VK) (E : XK), Room k (A.deeper (envOfC x (defScope st) s.heap.objs.size f cdv)) → sp vs H Q E →
      ∃ t, PSs (cxOf (L2.CX P w) P w K mg base N x (defScope st) f cdv A outer s H E) (defBody st) t ∧ t { nx := fun _ H' => Q .non H', rt := Q } (start N vs) H) : Cal P w K mg base (L2.CX P w) (k + 1) g ps sp := by
  obtain ⟨f, fd, hm, F, b⟩ := F
  exact ⟨f, fd, hm, F.kp, b, F.okX S len fun cdv A outer s H vs Q E hr h => hbody f cdv A outer s H vs Q E hr h⟩
theorem fn_mk {h : Heap} (X : K.In h) (G : h.Ns mainGlobals mg) {g x : Str} {st : Stmt} {ps : List Str} {f : Addr} {oc : Value} {od an : Option Addr} {osl : Array (Option Value)} {kV doc pm cdv ct : Value} (a : PySem.W.nsIn K mainGlobals g = some (some (.ref f)))
    (l : K.lookup f = some ⟨oc, od, .func (PySem.W.fnOf x x (defArgs st) (defBody st) (defScope st) .none kV doc pm an cdv ct), osl⟩) (c : PySem.W.codeIn K cdv x = true) (k : PySem.W.keepIn K (.ref f) = true)
    (b : ∀ (kV doc pm : Value) (an : Option Addr) (cdv ct : Value) (us : List Value), us.length = ps.length → bindArgs (PySem.W.fnOf x x (defArgs st) (defBody st) (defScope st) .none kV doc pm an cdv ct) ⟨us, []⟩ = pure (ps.zip us)) : Fn K mg g x st ps :=
  ⟨f, _, PySem.W.mg_of X G a, L2.fun_mk l c k, (L2.fun_mk l c k).binds b⟩
theorem Cal.imp {CX : CXT} {k : Nat} {x : Str} {ps : List Str} {sp sp' : Sp} (C : Cal P w K mg base CX k x ps sp) (h : ∀ vs H Q E, sp' vs H Q E → sp vs H Q E) : Cal P w K mg base CX k x ps sp' := by
  obtain ⟨f, fd, hm, kp, b, F⟩ := C
  exact ⟨f, fd, hm, kp, b, F.imp h⟩
theorem Cal.mono {CX : CXT} {j k : Nat} {x : Str} {ps : List Str} {sp : Sp} (C : Cal P w K mg base CX j x ps sp) (h : j ≤ k) : Cal P w K mg base CX k x ps sp := by
  obtain ⟨f, fd, hm, kp, b, F⟩ := C
  exact ⟨f, fd, hm, kp, b, F.mono h⟩
end
section
variable {X : Cx} {CX : CXT} {k : Nat} {ps : List Str} {sp : Sp} {E : XK} {x : Str} {p pos : Pos} {e : Expr} {es : List Expr} {t : TA}
/-- f(..) -/
def mCall (sp : Sp) (E : XK) (t : TA) : TE := fun σ H Q => t σ H fun vs H1 => sp vs H1 Q E
theorem nCall (C : Cal X.prog X.w X.K X.mg X.base CX k x ps sp) (hr : Room k X.A) (hx : Passes CX X E) (ha : PA X (e :: es) t) (hg : Gl X x := by rfl) (hdb : (x == ("__debug__" : Str)) = false := by decide)
    (he : starEach (e :: es) X.env = (false, eval e X.env) :: starEach es X.env := by rfl) (hpl : (backTo pos (starEach es X.env)).any (·.1) = false := by rfl) : PE X (.Call (.Name x p) (e :: es) [] pos) (mCall sp E t) := by
  obtain ⟨f, fd, hm, kp, b, F⟩ := C
  refine ⟨fun pins s σ H Q I h => ?_⟩
  refine (pe_call F hr hg hm kp b .nil hx ha hdb he hpl).run pins s σ H Q I ?_
  have e : (fun vs H1 => sp (vs ++ []) H1 Q E) = fun vs H1 => sp vs H1 Q E := by
    funext vs H1
    rw [List.append_nil]
  show t σ H fun vs H1 => sp (vs ++ []) H1 Q E
  rw [e]
  exact h
/-- f(..), what is raised told at the slots -/
def mCallS (sp : Sp) (E : L2.St → XK) (t : TA) : TE := fun σ H Q => t σ H fun vs H1 => sp vs H1 Q (E σ)
theorem nCallS {E : L2.St → XK} (C : Cal X.prog X.w X.K X.mg X.base CX k x ps sp) (hr : Room k X.A) (hx : ∀ σ, PassesAt CX X σ (E σ)) (ha : PA X (e :: es) t) (hg : Gl X x := by rfl) (hdb : (x == ("__debug__" : Str)) = false := by decide)
    (he : starEach (e :: es) X.env = (false, eval e X.env) :: starEach es X.env := by rfl) (hpl : (backTo pos (starEach es X.env)).any (·.1) = false := by rfl) : PE X (.Call (.Name x p) (e :: es) [] pos) (mCallS sp E t) := by
  obtain ⟨f, fd, hm, kp, b, F⟩ := C
  exact pe_callS F hr hg hm kp b hx ha hdb he hpl
theorem nCall0 (C : Cal X.prog X.w X.K X.mg X.base CX k x ps sp) (hr : Room k X.A) (hx : Passes CX X E) (hg : Gl X x := by rfl) (hdb : (x == ("__debug__" : Str)) = false := by decide) : PE X (.Call (.Name x p) [] [] pos) (fun _ H Q => sp [] H Q E) := by
  obtain ⟨f, fd, hm, kp, b, F⟩ := C
  refine ⟨fun pins s σ H Q I h => ?_⟩
  exact (pe_call0 F hr hg hm kp b .nil hx hdb).run pins s σ H Q I h
end
end NV

set_option Elab.async false
set_option linter.all false
set_option maxRecDepth 100000
set_option maxHeartbeats 4000000
/-! # the law's stream: a list of four, told by what is true of its one object -/
namespace NV
open PySem PySem.Spec PyProof.Rows L2
def Strm (p q : Addr) (h : Heap) : Prop := ∃ (a b c : Int) (t1 t2 t3 : Tok) (n : Nat), h.get? p = some { cls := .type "list", data := .seq #[.ref q, .int a t1, .int b t2, .int c t3] n } ∧ 0 ≤ b
/-- a stream to draw from stands at p -/
def StrmAt (H : Hp) (p : Addr) : Prop := ∃ (q : Addr) (ns : List Int), H p = some (.ext (Strm p q)) ∧ H q = some (.lst (ns.map V.int))
theorem StrmAt.mono {H H' : Hp} {p : Addr} (e : Evl.Ex H H') (h : StrmAt H p) : StrmAt H' p := by
  obtain ⟨q, ns, h1, h2⟩ := h
  exact ⟨q, ns, e _ _ h1, e _ _ h2⟩
section
variable {P : Program} {w : World} {K : PySem.W.Frag} {mg : Str → Option Value} {base : Heap}
theorem strm_of {H : Hp} {h : Heap} {p q : Addr} {a b c : Int} (x : ObjOk P w H h p (.lst [.ref q, .int a, .int b, .int c])) (hb : 0 ≤ b) : Strm p q h := by
  obtain ⟨_, its, n, r, e⟩ := x
  cases r with
  | cons r0 r => cases r with
    | cons r1 r => cases r with
      | cons r2 r => cases r with
        | cons r3 r =>
          cases r
          cases r0
          obtain ⟨t1, rfl⟩ := r1
          obtain ⟨t2, rfl⟩ := r2
          obtain ⟨t3, rfl⟩ := r3
          exact ⟨a, b, c, t1, t2, t3, n, e, hb⟩
theorem strm_ext {H : Hp} {h : Heap} {p q : Addr} (x : Strm p q h) : ObjOk P w H h p (.ext (Strm p q)) := by
  refine ⟨x, ?_, fun h1 h2 y k => ?_⟩
  · obtain ⟨a, b, c, t1, t2, t3, n, e, _⟩ := x
    exact ⟨_, e⟩
  · obtain ⟨a, b, c, t1, t2, t3, n, e, hb⟩ := y
    exact ⟨a, b, c, t1, t2, t3, n, k _ e, hb⟩
/-- what stands at p is told otherwise: neither telling is one that others lean on -/
theorem hok_tell {H : Hp} {h : Heap} {p : Addr} {o : HO} (ok : HOk P w H h) (no : ∀ y, H p ≠ some (.own y)) (nt : ∀ xs, H p ≠ some (.tup xs)) (new : ObjOk P w (upd H p o) h p o) : HOk P w (upd H p o) h := fun b u e => by
  by_cases hb : b = p
  · subst hb
    rw [upd_same] at e
    cases e
    exact new
  · rw [upd_ne hb] at e
    exact (ok b u e).stay (fun c v _ q => q) (fun c q => by rw [upd_ne (fun z => by rw [z] at q; exact no _ q)]; exact q) (fun c xs q => by rw [upd_ne (fun z => by rw [z] at q; exact nt _ q)]; exact q)
/-- a def that hands back, beside what it promises, a list of four: it stands as a stream from there on -/
theorem Cal.seal {k : Nat} {x : Str} {ps : List Str} {sp sp' : Sp} (C : Cal P w K mg base CX0 k x ps sp)
    (h : ∀ vs H Q E, sp' vs H Q E → sp vs H (fun v H' => ∃ (p q : Addr) (a b c : Int), H' p = some (.lst [.ref q, .int a, .int b, .int c]) ∧ 0 ≤ b ∧ Q v (upd H' p (.ext (Strm p q)))) E) : Cal P w K mg base CX0 k x ps sp' := by
  obtain ⟨f, fd, hm, kp, bd, F⟩ := C
  refine ⟨f, fd, hm, kp, bd, fun vs H Q E q => F.len _ _ _ _ (h _ _ _ _ q), fun A outer s H args us vs Q E hr he hb hv hs => codeAny_mono (F.run A outer s H args us vs _ E hr he hb hv (h _ _ _ _ hs)) fun r s' hq => ?_⟩
  cases r with
  | error e => exact hq
  | ok fl =>
    cases fl with
    | ret u =>
      obtain ⟨v, H', os, bare, un, hok, rv, p, q, a, b, c, hp, hb0, qq⟩ := hq
      have neS : ∀ d, H' d = none → d ≠ p := fun d e z => by rw [z, hp] at e; cases e
      refine ⟨v, upd H' p (.ext (Strm p q)), os, bare, ⟨un.keep, un.slot, fun d o e n hx => ?_, un.there, fun d xs e => ?_, fun d o y e => ?_, fun d tb e => ?_⟩, ?_, rv, qq⟩
      · have n' := un.free d o e n hx
        rw [upd_ne (neS d n')]
        exact n'
      · have z := un.tups d xs e
        rw [upd_ne (fun y => by rw [y, hp] at z; cases z)]
        exact z
      · have z := un.frzs d o y e
        rw [upd_ne (fun y => by rw [y, hp] at z; cases z)]
        exact z
      · obtain ⟨m, z⟩ := un.tbls d tb e
        exact ⟨m, by rw [upd_ne (fun y => by rw [y, hp] at z; cases z)]; exact z⟩
      · exact hok_tell hok (fun y e => by rw [hp] at e; cases e) (fun y e => by rw [hp] at e; cases e) (strm_ext (strm_of (hok p _ hp) hb0))
    | next => exact hq
    | brk => exact hq
    | cont => exact hq
/-- a def that draws from a stream: the list of four is seen within it alone -/
theorem Cal.unseal {k : Nat} {x : Str} {ps : List Str} {sp sp' : Sp} (C : Cal P w K mg base CX0 k x ps sp)
    (hl : ∀ vs H Q E, sp' vs H Q E → vs.length = ps.length)
    (h : ∀ vs H Q E, sp' vs H Q E → ∃ p, (StrmAt H p) ∧ ∀ (q : Addr) (ns : List Int) (a b c : Int), H p = some (.ext (Strm p q)) → H q = some (.lst (ns.map V.int)) → 0 ≤ b →
      sp vs (upd H p (.lst [.ref q, .int a, .int b, .int c])) (fun v H' => Q v H ∧ ∃ (a' b' c' : Int), 0 ≤ b' ∧ H' = upd (upd H p (.lst [.ref q, .int a, .int b, .int c])) p (.lst [.ref q, .int a', .int b', .int c'])) E) : Cal P w K mg base CX0 k x ps sp' := by
  obtain ⟨f, fd, hm, kp, bd, F⟩ := C
  refine ⟨f, fd, hm, kp, bd, hl, fun A outer s H args us vs Q E hr he hb hv hs => ?_⟩
  obtain ⟨p, ⟨q, ns, hp, hq⟩, hs⟩ := h _ _ _ _ hs
  obtain ⟨⟨a, b, c, t1, t2, t3, n, hg, hb0⟩, _, _⟩ := he.hok p _ hp
  have hs := hs q ns a b c hp hq hb0
  have neS : ∀ d, H d = none → d ≠ p := fun d e z => by rw [z, hp] at e; cases e
  have he1 : Env0 P w K mg base A outer s (upd H p (.lst [.ref q, .int a, .int b, .int c])) := by
    refine ⟨he.frames, he.mod, fun d o e => ?_, he.bsz, he.funs, fun d hd => ?_, ?_, he.bare⟩
    · obtain ⟨e1, e2⟩ := he.bs d o e
      exact ⟨e1, by rw [upd_ne (neS d e2)]; exact e2⟩
    · have e2 := he.frf d hd
      rw [upd_ne (neS d e2)]
      exact e2
    · exact hok_tell he.hok (fun y e => by rw [hp] at e; cases e) (fun y e => by rw [hp] at e; cases e)
        ⟨by show 4 ≤ sizeLine; decide, _, n, .cons rfl (.cons ⟨t1, rfl⟩ (.cons ⟨t2, rfl⟩ (.cons ⟨t3, rfl⟩ .nil))), hg⟩
  refine codeAny_mono (F.run A outer s _ args us vs _ E hr he1 hb hv hs) fun r s' hq2 => ?_
  cases r with
  | error e => exact hq2
  | ok fl =>
    cases fl with
    | ret u =>
      obtain ⟨v, H', os, bare, un, hok, rv, qq, a', b', c', hb1, rfl⟩ := hq2
      rw [upd_upd] at hok un
      refine ⟨v, H, os, bare, ⟨fun d o e n => un.keep d o e (by rw [upd_ne (neS d n)]; exact n), fun d o e n => un.slot d o e (by rw [upd_ne (neS d n)]; exact n), fun d o e n hx => n, un.there, fun d xs e => e, fun d o y e => e, fun d tb e => ⟨#[], by rw [e]; simp⟩⟩, ?_, rv, qq⟩
      have x := hok p _ upd_same
      have y := hok_tell (o := .ext (Strm p q)) hok (fun y e => by rw [upd_same] at e; cases e) (fun y e => by rw [upd_same] at e; cases e) (strm_ext (strm_of x hb1))
      rw [upd_upd] at y
      have z : upd H p (.ext (Strm p q)) = H := by
        funext d
        unfold upd
        by_cases hd : d = p
        · rw [if_pos hd, hd, hp]
        · rw [if_neg hd]
      rw [z] at y
      exact y
    | next => exact hq2
    | brk => exact hq2
    | cont => exact hq2
end
end NV

set_option Elab.async false
set_option linter.all false
set_option maxRecDepth 100000
set_option maxHeartbeats 4000000
/-! # texts and trees -/
namespace NV
open PySem PySem.Spec PyProof.Rows L2
open Evl (Ex)
/-- a text by its signs -/
abbrev S (l : List Nat) : Str := ⟨l.toArray⟩
theorem S_append (a b : List Nat) : S a ++ S b = S (a ++ b) := by
  show (⟨a.toArray ++ b.toArray⟩ : Str) = ⟨(a ++ b).toArray⟩
  rw [List.append_toArray]
theorem S_len (a : List Nat) : (S a).length = a.length := rfl
theorem S_add_len (x y : Str) : (x ++ y).length = x.length + y.length := by
  obtain ⟨x, rfl⟩ : ∃ l, x = S l := ⟨x.cps.toList, rfl⟩
  obtain ⟨y, rfl⟩ : ∃ l, y = S l := ⟨y.cps.toList, rfl⟩
  rw [S_append, S_len, List.length_append]
  rfl
theorem cut_len (z : Str) (lo hi : Option Int) : (cutS z lo hi).length ≤ z.length := by
  obtain ⟨l, rfl⟩ : ∃ l, z = S l := ⟨z.cps.toList, rfl⟩
  show (List.take _ (List.drop _ l)).length ≤ l.length
  rw [List.length_take, List.length_drop]
  omega
theorem S_inj {a b : List Nat} (h : S a = S b) : a = b := by
  have := congrArg (fun s : Str => s.cps.toList) h
  exact this
theorem S_cut (a : List Nat) (lo hi : Option Int) : cutS (S a) lo hi = S ((a.drop (HT.sIx a.length 0 lo)).take (HT.sIx a.length a.length hi - HT.sIx a.length 0 lo)) := rfl
theorem S_rep (a : List Nat) (n : Nat) : repS (S a) n = S (List.replicate n a).flatten := rfl
theorem S_of (s : Str) : ∃ l, s = S l := ⟨s.cps.toList, rfl⟩
/-- a stand-alone fact of new objects -/
theorem ne_new {H : Hp} {a b : Addr} {o : HO} (h : H a = some o) (h' : H b = none) : b ≠ a := (ne_of_none h h').symm
theorem okB {p : Prop} [Decidable p] {Q : VK} {H : Hp} (h : p) (k : Q (.bl true) H) : Q (.bl (decide p)) H := by
  rw [decide_eq_true h]
  exact k
theorem iteB {b : Bool} {A B : Prop} (h1 : b = true → A) (h2 : b = false → B) : if b = true then A else B := by
  cases b with
  | true => exact h1 rfl
  | false => exact h2 rfl
theorem iteD {p : Prop} [Decidable p] {A B : Prop} (h1 : p → A) (h2 : ¬ p → B) : if decide p = true then A else B := by
  by_cases h : p
  · rw [decide_eq_true h]; exact h1 h
  · rw [decide_eq_false h]; exact h2 h
theorem iteN {p : Prop} [Decidable p] {A B : Prop} (h1 : ¬ p → A) (h2 : p → B) : if (!decide p) = true then A else B := by
  by_cases h : p
  · rw [decide_eq_true h]; exact h2 h
  · rw [decide_eq_false h]; exact h1 h
theorem iteI {i j : Int} {A B : Prop} (h1 : i = j → A) (h2 : ¬ i = j → B) : if decide (V.int i = V.int j) = true then A else B :=
  iteD (fun h => h1 (V.int.inj h)) (fun h => h2 fun e => h (by rw [e]))
theorem iteNI {i j : Int} {A B : Prop} (h1 : ¬ i = j → A) (h2 : i = j → B) : if (!decide (V.int i = V.int j)) = true then A else B :=
  iteN (fun h => h1 fun e => h (by rw [e])) (fun h => h2 (V.int.inj h))
theorem iteS {i j : Str} {A B : Prop} (h1 : i = j → A) (h2 : ¬ i = j → B) : if decide (V.str i = V.str j) = true then A else B :=
  iteD (fun h => h1 (V.str.inj h)) (fun h => h2 fun e => h (by rw [e]))
theorem upd_self {H : Hp} {p : Addr} {o : HO} (h : H p = some o) : upd H p o = H := by
  funext d
  unfold upd
  by_cases hd : d = p
  · rw [if_pos hd, hd, h]
  · rw [if_neg hd]
theorem atI_at {α : Type} {xs : List α} {i : Int} (h0 : 0 ≤ i) (h1 : i < xs.length) : ∃ h : i.toNat < xs.length, atI xs i = some xs[i.toNat] := by
  have h : i.toNat < xs.length := by omega
  refine ⟨h, ?_⟩
  have := atI_nat (xs := xs) (j := i.toNat) (List.getElem?_eq_getElem h)
  rw [Int.toNat_of_nonneg h0] at this
  exact this
theorem atI_int {ns : List Int} {i : Int} (h0 : 0 ≤ i) (h1 : i < (ns.map V.int).length) : ∃ z, atI (ns.map V.int) i = some (.int z) := by
  obtain ⟨h, e⟩ := atI_at (xs := ns.map V.int) h0 h1
  rw [List.getElem_map] at e
  exact ⟨_, e⟩
theorem pickI {xs : List V} {f : V → Bool} (h : xs.all f = true) {i : Int} (h0 : 0 ≤ i) (h1 : i < xs.length) : ∃ v, atI xs i = some v ∧ f v = true := by
  obtain ⟨hi, e⟩ := atI_at h0 h1
  exact ⟨_, e, List.all_eq_true.mp h _ (List.getElem_mem hi)⟩
theorem pick_ix {K : PySem.W.Frag} {H : Hp} {p : Addr} {xs : List V} {f : V → Bool} {i : Int} {Q : V → Prop} (hq : SqA K H p xs) (h : xs.all f = true) (h0 : 0 ≤ i) (h1 : i < xs.length) (k : ∀ v, f v = true → Q v) : ∃ xs v, SqA K H p xs ∧ atI xs i = some v ∧ Q v := by
  obtain ⟨v, e, hv⟩ := pickI h h0 h1
  exact ⟨xs, v, hq, e, k v hv⟩
theorem str_ix {z : Str} {n : Nat} {i : Int} {Q : Nat → Prop} (hn : z.cps.toList.length = n) (hz : n ≤ 100000) (h0 : 0 ≤ i) (h1 : i < n) (k : ∀ c, z.cps.toList[i.toNat]? = some c → Q c) : z.length ≤ sizeLine ∧ ∃ c, atI z.cps.toList i = some c ∧ Q c := by
  have hl : z.length = n := hn
  have hs : sizeLine = 16777216 := sizeLine_eq
  obtain ⟨hi, e⟩ := atI_at (xs := z.cps.toList) h0 (by rw [hn]; exact h1)
  exact ⟨by omega, _, e, k _ (List.getElem?_eq_getElem hi)⟩
theorem mem_ix {K : PySem.W.Frag} {H : Hp} {p : Addr} {xs : List V} {i : Int} {P Q : V → Prop} (hq : SqA K H p xs) (h0 : 0 ≤ i) (h1 : i < xs.length) (hP : ∀ v ∈ xs, P v) (k : ∀ v, P v → Q v) : ∃ xs v, SqA K H p xs ∧ atI xs i = some v ∧ Q v := by
  obtain ⟨hi, e⟩ := atI_at h0 h1
  exact ⟨xs, _, hq, e, k _ (hP _ (List.getElem_mem hi))⟩
theorem mem_of_get {α : Type} {xs : List α} {i : Nat} {x : α} (h : xs[i]? = some x) : x ∈ xs := by
  obtain ⟨hi, e⟩ := List.getElem?_eq_some_iff.mp h
  rw [← e]
  exact List.getElem_mem hi
theorem map_get {α β : Type} {f : α → β} {xs : List α} {i : Nat} {y : β} (h : (xs.map f)[i]? = some y) : ∃ x, xs[i]? = some x ∧ y = f x := by
  rw [List.getElem?_map] at h
  cases e : xs[i]? with
  | none => rw [e] at h; cases h
  | some u => rw [e] at h; exact ⟨u, rfl, (Option.some.inj h).symm⟩
/-! ### signs, trees -/
inductive Tr where
  | l
  | n (a b : Tr)
  deriving DecidableEq
def Tr.enc : Tr → List Nat
  | .l => [48]
  | .n a b => 49 :: (a.enc ++ b.enc)
def Tr.pairs : Tr → Nat
  | .l => 0
  | .n a b => a.pairs + b.pairs + 1
theorem Tr.enc_len : ∀ t : Tr, t.enc.length = 2 * t.pairs + 1
  | .l => rfl
  | .n a b => by
    have h1 := a.enc_len
    have h2 := b.enc_len
    simp only [Tr.enc, Tr.pairs, List.length_cons, List.length_append]
    omega
theorem Tr.enc_ne (t : Tr) : t.enc ≠ [] := by cases t <;> simp [Tr.enc]
theorem S_app1 (a : List Nat) : S a ++ ("1" : Str) = S (a ++ [49]) := S_append a [49]
theorem S_app0 (a : List Nat) : S a ++ ("0" : Str) = S (a ++ [48]) := S_append a [48]
/-- m trees are missing; how many behind these signs -/
def scan : Nat → List Nat → Option Nat
  | m, [] => some m
  | 0, _ :: _ => none
  | m + 1, c :: cs => if c = 49 then scan (m + 2) cs else if c = 48 then scan m cs else none
theorem scan_nil (m : Nat) : scan m [] = some m := by cases m <;> rfl
theorem scan_zero (c : Nat) (cs : List Nat) : scan 0 (c :: cs) = none := rfl
theorem scan_one (m : Nat) (cs : List Nat) : scan (m + 1) (49 :: cs) = scan (m + 2) cs := rfl
theorem scan_leaf (m : Nat) (cs : List Nat) : scan (m + 1) (48 :: cs) = scan m cs := rfl
theorem scan_other (m : Nat) {c : Nat} (cs : List Nat) (h1 : c ≠ 49) (h0 : c ≠ 48) : scan (m + 1) (c :: cs) = none := by
  show (if c = 49 then _ else if c = 48 then _ else none) = _
  rw [if_neg h1, if_neg h0]
theorem scan_append : ∀ (a b : List Nat) (m : Nat), scan m (a ++ b) = (scan m a).bind fun k => scan k b
  | [], b, m => by rw [List.nil_append, scan_nil]; rfl
  | c :: a, b, 0 => rfl
  | c :: a, b, m + 1 => by
    show (if c = 49 then scan (m + 2) (a ++ b) else if c = 48 then scan m (a ++ b) else none) = (if c = 49 then scan (m + 2) a else if c = 48 then scan m a else none).bind _
    by_cases h1 : c = 49
    · rw [if_pos h1, if_pos h1]; exact scan_append a b (m + 2)
    · rw [if_neg h1, if_neg h1]
      by_cases h0 : c = 48
      · rw [if_pos h0, if_pos h0]; exact scan_append a b m
      · rw [if_neg h0, if_neg h0]; rfl
theorem scan_enc : ∀ (t : Tr) (m : Nat) (r : List Nat), scan (m + 1) (t.enc ++ r) = scan m r
  | .l, m, r => rfl
  | .n a b, m, r => by
    show scan (m + 2) (a.enc ++ b.enc ++ r) = _
    rw [List.append_assoc, scan_enc a (m + 1), scan_enc b m]
theorem scan_enc1 (t : Tr) : scan 1 t.enc = some 0 := by
  have := scan_enc t 0 []
  rw [List.append_nil] at this
  rw [this]
  rfl
/-- what is read to its end is so many trees -/
theorem scan_trees : ∀ (s : List Nat) (m : Nat), scan m s = some 0 → ∃ ts : List Tr, ts.length = m ∧ s = (ts.map Tr.enc).flatten
  | [], m, h => by
    rw [scan_nil] at h
    cases h
    exact ⟨[], rfl, rfl⟩
  | c :: cs, 0, h => by cases h
  | c :: cs, m + 1, h => by
    have h' : (if c = 49 then scan (m + 2) cs else if c = 48 then scan m cs else none) = some 0 := h
    by_cases h1 : c = 49
    · rw [if_pos h1] at h'
      obtain ⟨ts, hl, e⟩ := scan_trees cs (m + 2) h'
      match ts, hl, e with
      | a :: b :: r, hl, e =>
        refine ⟨.n a b :: r, by simpa using hl, ?_⟩
        rw [e, h1]
        simp [Tr.enc, List.append_assoc]
    · rw [if_neg h1] at h'
      by_cases h0 : c = 48
      · rw [if_pos h0] at h'
        obtain ⟨ts, hl, e⟩ := scan_trees cs m h'
        refine ⟨.l :: ts, by simpa using hl, ?_⟩
        rw [e, h0]
        rfl
      · rw [if_neg h0] at h'
        cases h'
theorem scan_tree {s : List Nat} (h : scan 1 s = some 0) : ∃ t : Tr, s = t.enc := by
  obtain ⟨ts, hl, e⟩ := scan_trees s 1 h
  match ts, hl, e with
  | [t], _, e => exact ⟨t, by rw [e]; simp⟩
/-- a tree of at most 200,000 signs -/
def isTr (s : List Nat) : Bool := decide (s.length ≤ 200000) && decide (scan 1 s = some 0)
/-- what is_tree answers of a value -/
inductive TrAns (K : PySem.W.Frag) (H : Hp) : V → Bool → Prop
  | str {l : List Nat} (h : l.length ≤ 10000000) : TrAns K H (.str (S l)) (isTr l)
  | lst {a : Addr} (h : TyX K H (.ref a) (.type "list")) : TrAns K H (.ref a) false
  | tup {a : Addr} (h : TyX K H (.ref a) (.type "tuple")) : TrAns K H (.ref a) false
  | non : TrAns K H .non false
  | int (i : Int) : TrAns K H (.int i) false
  | bl (b : Bool) : TrAns K H (.bl b) false
theorem isTr_enc {t : Tr} (h : t.enc.length ≤ 200000) : isTr t.enc = true := by
  unfold isTr
  rw [scan_enc1, decide_eq_true h]
  rfl
theorem TrAns.tree {K : PySem.W.Frag} {H : Hp} {t : Tr} (h : t.enc.length ≤ 200000) : TrAns K H (.str (S t.enc)) true := by
  have := TrAns.str (K := K) (H := H) (l := t.enc) (by omega)
  rw [isTr_enc h] at this
  exact this
theorem tyx_ex {K : PySem.W.Frag} {H H' : Hp} (e : Ex H H') {v : V} {t : Value} (h : TyX K H v t) : TyX K H' v t := by
  cases h with
  | base h =>
    cases h with
    | non => exact .base .non
    | bl x => exact .base (.bl x)
    | int i => exact .base (.int i)
    | str x => exact .base (.str x)
    | flt x => exact .base (.flt x)
    | lst h => exact .base (.lst (e _ _ h))
    | frz h => exact .base (.frz (e _ _ h))
    | tup h => exact .base (.tup (e _ _ h))
    | dK h => exact .base (.dK (e _ _ h))
    | dT h => exact .base (.dT (e _ _ h))
    | ins h a b c d f => exact .base (.ins (e _ _ h) a b c d f)
  | byt b => exact .byt b
  | set h => exact .set (e _ _ h)
  | kList h c => exact .kList h c
  | kTuple h c => exact .kTuple h c
  | kDict h c => exact .kDict h c
  | fTuple h => exact .fTuple (e _ _ h)
  | fDict h => exact .fDict (e _ _ h)
theorem TrAns.mono {K : PySem.W.Frag} {H H' : Hp} (e : Ex H H') {v : V} {b : Bool} (h : TrAns K H v b) : TrAns K H' v b := by
  cases h with
  | str h => exact .str h
  | lst h => exact .lst (tyx_ex e h)
  | tup h => exact .tup (tyx_ex e h)
  | non => exact .non
  | int i => exact .int i
  | bl b => exact .bl b
theorem enc_inj : ∀ (t u : Tr) (r r' : List Nat), t.enc ++ r = u.enc ++ r' → t = u ∧ r = r'
  | .l, .l, r, r', h => by
    simp only [Tr.enc, List.cons_append, List.nil_append, List.cons.injEq, true_and] at h
    exact ⟨rfl, h⟩
  | .l, .n _ _, r, r', h => by simp [Tr.enc] at h
  | .n _ _, .l, r, r', h => by simp [Tr.enc] at h
  | .n a b, .n c d, r, r', h => by
    simp only [Tr.enc, List.cons_append, List.cons.injEq, true_and, List.append_assoc] at h
    obtain ⟨e1, h⟩ := enc_inj a c _ _ h
    obtain ⟨e2, h⟩ := enc_inj b d _ _ h
    exact ⟨by rw [e1, e2], h⟩
theorem enc_inj1 {t u : Tr} (h : t.enc = u.enc) : t = u := (enc_inj t u [] [] (by rw [h])).1
def tens (n : Nat) : List Nat := (List.replicate n [49, 48]).flatten ++ [48]
theorem flat_len (n : Nat) (l : List Nat) : (List.replicate n l).flatten.length = n * l.length := by
  induction n with
  | zero => simp
  | succ n ih => rw [List.replicate_succ, List.flatten_cons, List.length_append, ih, Nat.succ_mul, Nat.add_comm]
theorem flat_rep {α : Type} (x : α) : ∀ n : Nat, (List.replicate n [x]).flatten = List.replicate n x
  | 0 => rfl
  | n + 1 => by
    rw [List.replicate_succ, List.flatten_cons, flat_rep x n, List.replicate_succ]
    rfl
theorem tens_len (n : Nat) : (tens n).length = 2 * n + 1 := by
  unfold tens
  rw [List.length_append, flat_len]
  show n * 2 + 1 = _
  omega
/-- the number n as a tree -/
def numT : Nat → Tr
  | 0 => .l
  | n + 1 => .n .l (numT n)
theorem numT_enc : ∀ n, (numT n).enc = tens n
  | 0 => rfl
  | n + 1 => by
    show 49 :: ([48] ++ (numT n).enc) = _
    rw [numT_enc n]
    unfold tens
    rw [List.replicate_succ, List.flatten_cons, List.append_assoc]
    rfl
theorem tens_str (n : Nat) : repS ("10" : Str) n ++ ("0" : Str) = S (tens n) := S_append _ _
theorem tens_inj {n m : Nat} (h : tens n = tens m) : n = m := by
  have := congrArg List.length h
  rw [tens_len, tens_len] at this
  omega
def Tr.hd : Tr → Tr
  | .l => .l
  | .n a _ => a
def Tr.tl : Tr → Tr
  | .l => .l
  | .n _ b => b
theorem drop_head {α : Type} {l r : List α} {c : α} {j : Nat} (h : l.drop j = c :: r) : l[j]? = some c ∧ l.drop (j + 1) = r ∧ j < l.length := by
  have hj : j < l.length := by
    have := congrArg List.length h
    rw [List.length_drop, List.length_cons] at this
    omega
  rw [List.drop_eq_getElem_cons hj] at h
  injection h with h1 h2
  exact ⟨by rw [List.getElem?_eq_getElem hj, h1], h2, hj⟩
theorem end_step {l post : List Nat} {t : Tr} {r : List Tr} {j : Nat} (h : l.drop j = ((t :: r).map Tr.enc).flatten ++ post) :
    j < l.length ∧ ∃ c, l[j]? = some c ∧ ((c = 49 ∧ ∃ a b, l.drop (j + 1) = ((a :: b :: r).map Tr.enc).flatten ++ post) ∨ (c = 48 ∧ l.drop (j + 1) = (r.map Tr.enc).flatten ++ post)) := by
  rw [List.map_cons, List.flatten_cons] at h
  cases t with
  | l =>
    have h' : l.drop j = 48 :: ((r.map Tr.enc).flatten ++ post) := h
    obtain ⟨h1, h2, h3⟩ := drop_head h'
    exact ⟨h3, 48, h1, .inr ⟨rfl, h2⟩⟩
  | n a b =>
    have h' : l.drop j = 49 :: (a.enc ++ b.enc ++ (r.map Tr.enc).flatten ++ post) := h
    obtain ⟨h1, h2, h3⟩ := drop_head h'
    refine ⟨h3, 49, h1, .inl ⟨rfl, a, b, ?_⟩⟩
    rw [h2]
    simp [List.append_assoc]
theorem end_at {l pre t post : List Nat} {j : Nat} (hl : l = pre ++ t ++ post) (h : l.drop j = post) (hj : j ≤ l.length) : j = pre.length + t.length := by
  have h1 := congrArg List.length h
  have h2 := congrArg List.length hl
  rw [List.length_drop] at h1
  rw [List.length_append, List.length_append] at h2
  omega
theorem cut_mid (a b c : List Nat) : cutS (S (a ++ b ++ c)) (some (a.length : Nat)) (some ((a.length + b.length : Nat) : Int)) = S b := by
  rw [S_cut, HT.sIx_nat, HT.sIx_nat, List.length_append, List.length_append, Nat.min_eq_left (by omega), Nat.min_eq_left (by omega), Nat.add_sub_cancel_left, List.append_assoc, List.drop_left, List.take_left]
theorem cut_end (a b : List Nat) : cutS (S (a ++ b)) (some (a.length : Nat)) none = S b := by
  rw [S_cut, HT.sIx_nat, HT.sIx_none, List.length_append, Nat.min_eq_left (by omega), Nat.add_sub_cancel_left, List.drop_left, List.take_length]
theorem cut_start (a b : List Nat) : cutS (S (a ++ b)) none (some (a.length : Nat)) = S a := by
  rw [S_cut, HT.sIx_nat, HT.sIx_none, List.length_append, Nat.min_eq_left (by omega), Nat.sub_zero]
  show S ((a ++ b).take a.length) = S a
  rw [List.take_left]
theorem le_sum {x : Nat} : ∀ {l : List Nat}, x ∈ l → x ≤ l.sum
  | y :: l, h => by
    rw [List.sum_cons]
    rcases List.mem_cons.mp h with h | h
    · omega
    · have := le_sum h
      omega
theorem inV01 (c : Nat) : inV (.str (S [c])) [.str ("0" : Str), .str ("1" : Str)] = (decide (c = 48) || decide (c = 49)) := by
  have e0 : eqV (.str ("0" : Str)) (.str (S [c])) = decide (c = 48) := by
    show decide (("0" : Str) = S [c]) = decide (c = 48)
    by_cases h : c = 48
    · rw [h]; rfl
    · rw [decide_eq_false h, decide_eq_false]
      intro q
      have := S_inj (a := [48]) (b := [c]) q
      simp at this
      exact h this.symm
  have e1 : eqV (.str ("1" : Str)) (.str (S [c])) = decide (c = 49) := by
    show decide (("1" : Str) = S [c]) = decide (c = 49)
    by_cases h : c = 49
    · rw [h]; rfl
    · rw [decide_eq_false h, decide_eq_false]
      intro q
      have := S_inj (a := [49]) (b := [c]) q
      simp at this
      exact h this.symm
  show (eqV (.str ("0" : Str)) (.str (S [c])) || (eqV (.str ("1" : Str)) (.str (S [c])) || false)) = _
  rw [e0, e1, Bool.or_false]
/-! ### lists of trees -/
def listS (ls : List (List Nat)) : List Nat := (ls.map fun l => 49 :: l).flatten ++ [48]
def listT : List Tr → Tr
  | [] => .l
  | t :: r => .n t (listT r)
theorem listT_enc : ∀ ts : List Tr, (listT ts).enc = listS (ts.map Tr.enc)
  | [] => rfl
  | t :: r => by
    show 49 :: (t.enc ++ (listT r).enc) = _
    rw [listT_enc r]
    unfold listS
    simp
/-- every tree is a list -/
def Tr.items : Tr → List Tr
  | .l => []
  | .n a b => a :: b.items
theorem listT_items : ∀ t : Tr, listT t.items = t
  | .l => rfl
  | .n a b => by
    show Tr.n a (listT b.items) = _
    rw [listT_items b]
theorem items_listT : ∀ ts : List Tr, (listT ts).items = ts
  | [] => rfl
  | t :: r => by
    show t :: (listT r).items = _
    rw [items_listT r]
theorem join_S (ls : List (List Nat)) : Txt.join ("" : Str) (ls.map S) = S ls.flatten := by
  refine TL.ext_tl ?_
  rw [TL.join_eq, TL.tl_join]
  have e : (ls.map S).map TL.tl = ls := by
    rw [List.map_map]
    exact List.map_id _
  rw [e]
  show TL.joinL [] ls = ls.flatten
  have : ∀ ls : List (List Nat), TL.joinL [] ls = ls.flatten := by
    intro ls
    induction ls with
    | nil => rfl
    | cons p r ih =>
      cases r with
      | nil => simp [TL.joinL]
      | cons q r =>
        show p ++ ([] ++ TL.joinL [] (q :: r)) = _
        rw [ih]
        simp
  exact this ls
theorem sum_len (ls : List (List Nat)) : ((ls.map fun l => S (49 :: l)).map (·.length)).sum + 1 = (listS ls).length := by
  unfold listS
  rw [List.length_append, List.length_flatten, List.map_map, List.map_map]
  rfl
theorem take_map {α β : Type} {f : α → β} {ls : List α} {i : Nat} {l : α} (h : ls[i]? = some l) : (ls.take (i + 1)).map f = (ls.take i).map f ++ [f l] := by
  rw [List.take_add_one, h, List.map_append]
  rfl
/-- a for over a text's signs -/
theorem for_str {z : List Nat} {g : TG} {tb : TS} {D : Ends} {σ : L2.St} {H : Hp} (Pv : Nat → L2.St → Hp → Prop) (h0 : Pv 0 σ H)
    (hs : ∀ i c σ H, z[i]? = some c → Pv i σ H → g (.str (S [c])) σ H fun σ2 H2 => tb { D with nx := Pv (i + 1), ct := Pv (i + 1), bk := D.nx } σ2 H2) (hd : ∀ σ H, Pv z.length σ H → D.nx σ H) :
    ∃ W : Nat → Nat → L2.St → Hp → Prop, (∃ m, W 0 m σ H) ∧ ∀ i m σ H, W i m σ H →
      ((Its (S z)).stop i H ∧ D.nx σ H) ∨ ((Its (S z)).go i H ∧ ∃ N : L2.St → Hp → Prop, (∀ σ' H', N σ' H' → ∃ m', m' < m ∧ W (i + 1) m' σ' H') ∧ ∀ x H', (Its (S z)).yld i H x H' → g x σ H' fun σ2 H2 => tb { D with nx := N, ct := N, bk := D.nx } σ2 H2) := by
  refine ⟨fun i m s h => Pv i s h ∧ i ≤ z.length ∧ i + m = z.length, ⟨z.length, h0, Nat.zero_le _, by omega⟩, ?_⟩
  rintro i m s h ⟨p, hi, em⟩
  by_cases hlt : i < z.length
  · refine .inr ⟨show i < (S z).cps.size from hlt, Pv (i + 1), fun s' h' p' => ⟨m - 1, by omega, p', hlt, by omega⟩, ?_⟩
    rintro x h' ⟨rfl, c, hc, rfl⟩
    have hc' : z[i]? = some c := by
      have e : (S z).cps[i]? = z[i]? := List.getElem?_toArray
      rw [← e]
      exact hc
    exact hs i c s _ hc' p
  · have e : i = z.length := by omega
    subst e
    exact .inl ⟨Nat.le_refl _, hd _ _ p⟩
theorem drop_cons {α : Type} {z : List α} {i : Nat} {c : α} (h : z[i]? = some c) : z.drop i = c :: z.drop (i + 1) := by
  obtain ⟨hi, e⟩ := List.getElem?_eq_some_iff.mp h
  rw [List.drop_eq_getElem_cons hi, e]
/-! ### a law's end -/
def spLaw (K : PySem.W.Frag) (_ : Str → Option Value) : Sp := fun vs H Q _ => ∃ (a : Addr) (ns : List Int), vs = [.ref a] ∧ SqL K H a (ns.map V.int) ∧ ns.length ≤ 63 ∧ ∀ H', Q (.bl true) H'
theorem walk_law {l : PySem.W.OpenLaw} {k : Nat} {q : Program} {loose : List Str} {XP : (Str → Option Value) → Heap → Prop} {YP : World → Heap → Prop} {d : DefRec} {K : Params → PySem.W.Frag} (hn : l.most = some 63) (hdf : d.params.defaults = []) (hk : k ≤ 60)
    (hY : ∀ (w : World) (h : Heap), YP w h → (K w.params).In h)
    (F : ∀ (w : World) (mg : Str → Option Value) (fa : Addr) (h : Heap), (K w.params).In h → h.Ns mainGlobals mg → mg d.name = some (.ref fa) →
      ∃ fd : FuncData, (∀ (s : Shared) (u : Value), BindsTo s fd ⟨[u], []⟩ [("_law_script", u)]) ∧ ∀ base : Heap, (K w.params).In base → base.Ns mainGlobals mg → FnOk l.prog w (K w.params) mg base CX0 k fa fd ["_law_script"] (spLaw (K w.params) mg)) :
    PySem.W.WalkO q loose XP YP l.row.toRowW d [] (fun f vs => PySem.call f vs) :=
  L2.walk_of (n := 63) (k := k) (x := "_law_script") (CX := fun _ => CX0) (sp := fun w => fun vs H Q _ => ∃ (a : Addr) (ns : List Int), vs = [.ref a] ∧ SqL (K w.params) H a (ns.map V.int) ∧ ns.length ≤ 63 ∧ ∀ H', Q (.bl true) H') hn (by decide) hdf (Room.mono (show Room 60 callerA from ⟨rfl, by decide, by decide⟩) hk) hY F (fun _ _ a ns hl _ hS => ⟨a, ns, rfl, hS, hl, fun _ => rfl⟩) fun _ _ _ _ _ z => z
end NV

set_option Elab.async false
set_option linter.all false
set_option maxRecDepth 100000
set_option maxHeartbeats 4000000
/-! # data: lists and tuples of texts and ints -/
namespace NV
open PySem PySem.Spec PyProof.Rows L2
open Evl (Ex)
mutual
theorem Dp.mono {K : PySem.W.Frag} {H H' : Hp} (e : Ex H H') : ∀ (d : PyData) {v : V}, Dp K H v d → Dp K H' v d
  | .none, _, h => by cases h; exact .non
  | .bool b, _, h => by cases h; exact .bl b
  | .int i, _, h => by cases h; exact .int i
  | .str x, _, h => by cases h; exact .str x
  | .list ds, _, h => by
    cases h with
    | lst hs ha => exact .lst (Evl.ex_l e hs) (DpAll.mono e ds ha)
  | .tuple ds, _, h => by
    cases h with
    | tup hs ha => exact .tup (Evl.ex_t e hs) (DpAll.mono e ds ha)
  | .dict _, _, h => by cases h
theorem DpAll.mono {K : PySem.W.Frag} {H H' : Hp} (e : Ex H H') : ∀ (ds : List PyData) {vs : List V}, DpAll K H vs ds → DpAll K H' vs ds
  | [], _, h => by cases h; exact .nil
  | d :: ds, _, h => by
    cases h with
    | cons h1 h2 => exact .cons (Dp.mono e d h1) (DpAll.mono e ds h2)
end
theorem DpAll.len {K : PySem.W.Frag} {H : Hp} : ∀ {xs : List V} {ds : List PyData}, DpAll K H xs ds → xs.length = ds.length
  | _, _, .nil => rfl
  | _, _, .cons _ t => by rw [List.length_cons, List.length_cons, DpAll.len t]
theorem DpAll.get {K : PySem.W.Frag} {H : Hp} : ∀ {xs : List V} {ds : List PyData} {i : Nat} {x : V}, DpAll K H xs ds → xs[i]? = some x → ∃ d, ds[i]? = some d ∧ Dp K H x d
  | _, _, _, _, .nil, h => by simp at h
  | _, _, 0, _, .cons h t, e => by simp at e; subst e; exact ⟨_, rfl, h⟩
  | _, _, i + 1, _, .cons h t, e => by simp at e; simpa using DpAll.get t e
/-! no bools, no dicts, good texts -/
mutual
def nb : PyData → Bool
  | .none => true
  | .bool _ => false
  | .int _ => true
  | .str x => x.cps.all (· < 0x110000)
  | .list xs => nbAll xs
  | .tuple xs => nbAll xs
  | .dict _ => false
def nbAll : List PyData → Bool
  | [] => true
  | x :: xs => nb x && nbAll xs
end
mutual
theorem nb_lay : ∀ d : PyData, nb d = true → d.canLay0 = true
  | .none, _ => rfl
  | .bool _, h => by cases h
  | .int _, _ => rfl
  | .str x, h => h
  | .list xs, h => nbAll_lay xs h
  | .tuple xs, h => nbAll_lay xs h
  | .dict _, h => by cases h
theorem nbAll_lay : ∀ ds : List PyData, nbAll ds = true → PyData.canLayAll0 ds = true
  | [], _ => rfl
  | x :: xs, h => by
    have h' : (nb x && nbAll xs) = true := h
    rw [Bool.and_eq_true] at h'
    show (x.canLay0 && PyData.canLayAll0 xs) = true
    rw [nb_lay x h'.1, nbAll_lay xs h'.2]
    rfl
end
mutual
theorem eqv_nb : ∀ d e : PyData, nb d = true → nb e = true → (PyData.eqv d e = true ↔ d = e)
  | .none, e, _, h => by cases e <;> simp [PyData.eqv]
  | .bool _, _, h, _ => by cases h
  | .int i, e, _, h => by cases e <;> first | (simp [PyData.eqv]; done) | (cases h)
  | .str x, e, _, h => by cases e <;> first | (simp [PyData.eqv]; done) | (cases h)
  | .list xs, e, hx, h => by
    cases e with
    | list ys =>
      show PyData.eqvAll xs ys = true ↔ _
      rw [eqvAll_nb xs ys hx h]
      exact ⟨fun q => by rw [q], fun q => PyData.list.inj q⟩
    | bool _ => cases h
    | dict _ => cases h
    | _ => simp [PyData.eqv]
  | .tuple xs, e, hx, h => by
    cases e with
    | tuple ys =>
      show PyData.eqvAll xs ys = true ↔ _
      rw [eqvAll_nb xs ys hx h]
      exact ⟨fun q => by rw [q], fun q => PyData.tuple.inj q⟩
    | bool _ => cases h
    | dict _ => cases h
    | _ => simp [PyData.eqv]
  | .dict _, _, h, _ => by cases h
theorem eqvAll_nb : ∀ xs ys : List PyData, nbAll xs = true → nbAll ys = true → (PyData.eqvAll xs ys = true ↔ xs = ys)
  | [], [], _, _ => by simp [PyData.eqvAll]
  | [], _ :: _, _, _ => by simp [PyData.eqvAll]
  | _ :: _, [], _, _ => by simp [PyData.eqvAll]
  | x :: xs, y :: ys, hx, hy => by
    have hx' : (nb x && nbAll xs) = true := hx
    have hy' : (nb y && nbAll ys) = true := hy
    rw [Bool.and_eq_true] at hx' hy'
    show (PyData.eqv x y && PyData.eqvAll xs ys) = true ↔ _
    rw [Bool.and_eq_true, eqv_nb x y hx'.1 hy'.1, eqvAll_nb xs ys hx'.2 hy'.2]
    exact ⟨fun q => by rw [q.1, q.2], fun q => by injection q with a b; exact ⟨a, b⟩⟩
end
theorem eqv_dec {d e : PyData} {p : Prop} [Decidable p] (hd : nb d = true) (he : nb e = true) (h : d = e ↔ p) : PyData.eqv d e = decide p := by
  have := eqv_nb d e hd he
  by_cases q : p
  · rw [decide_eq_true q, this.mpr (h.mpr q)]
  · rw [decide_eq_false q]
    cases z : PyData.eqv d e with
    | false => rfl
    | true => exact absurd (h.mp (this.mp z)) q
theorem shaped_of {d : PyData} (h : nb d = true) (hd : d.depth ≤ 64) : SeqAt.shaped d = true := by
  show (d.canLay0 && decide (d.depth ≤ 64)) = true
  rw [nb_lay d h, decide_eq_true hd]
  rfl
/-- signs that a text may have -/
def sOk (l : List Nat) : Bool := l.all (· < 0x110000)
theorem nb_S (l : List Nat) : nb (.str (S l)) = sOk l := by
  show (l.toArray.all fun x => decide (x < 0x110000)) = _
  rw [List.all_toArray]
  rfl
theorem sOk_enc : ∀ t : Tr, sOk t.enc = true
  | .l => rfl
  | .n a b => by
    have h1 := sOk_enc a
    have h2 := sOk_enc b
    unfold sOk at *
    show (decide (49 < 0x110000) && (a.enc ++ b.enc).all _) = true
    rw [List.all_append, h1, h2]
    rfl
end NV

set_option Elab.async false
set_option linter.all false
set_option maxRecDepth 100000
set_option maxHeartbeats 4000000
/-! # programs -/
namespace NV
open PySem PySem.Spec PyProof.Rows L2
open Evl (Ex)
/-- what a loop over a list does, its body of any form -/
theorem walk_list {K : PySem.W.Frag} {a : Addr} {xs : List V} {B : V → Hp → (Hp → Prop) → Prop} {Qd : Hp → Prop} {H1 : Hp} (Pv : Nat → Hp → Prop) (h0 : Pv 0 H1) (hl : ∀ i H, i ≤ xs.length → Pv i H → SqL K H a xs)
    (hs : ∀ i x H, xs[i]? = some x → Pv i H → B x H (Pv (i + 1))) (hd : ∀ H, Pv xs.length H → Qd H) :
    ∃ W : Nat → Nat → Hp → Prop, (∃ m, W 0 m H1) ∧ ∀ i m H, W i m H → ((Itl K a).stop i H ∧ Qd H) ∨ ((Itl K a).go i H ∧ ∃ Nx : Hp → Prop, (∀ H', Nx H' → ∃ m', m' < m ∧ W (i + 1) m' H') ∧ ∀ x H', (Itl K a).yld i H x H' → B x H' Nx) := by
  refine ⟨fun i m h => i ≤ xs.length ∧ Pv i h ∧ i + m = xs.length, ⟨xs.length, Nat.zero_le _, h0, by omega⟩, ?_⟩
  rintro i m h ⟨hi, p, em⟩
  have q := hl i h hi p
  by_cases hlt : i < xs.length
  · refine .inr ⟨⟨xs, xs[i], q, List.getElem?_eq_getElem hlt⟩, Pv (i + 1), fun h' p' => ⟨m - 1, by omega, hlt, p', by omega⟩, ?_⟩
    rintro x h' ⟨rfl, y⟩
    exact hs i x _ (y xs q) p
  · have e : i = xs.length := by omega
    subst e
    exact .inl ⟨⟨xs, q, Nat.le_refl _⟩, hd _ p⟩
theorem walk_tup {K : PySem.W.Frag} {a : Addr} {xs : List V} {B : V → Hp → (Hp → Prop) → Prop} {Qd : Hp → Prop} {H1 : Hp} (Pv : Nat → Hp → Prop) (h0 : Pv 0 H1) (hl : ∀ i H, i ≤ xs.length → Pv i H → SqT K H a xs)
    (hs : ∀ i x H, xs[i]? = some x → Pv i H → B x H (Pv (i + 1))) (hd : ∀ H, Pv xs.length H → Qd H) :
    ∃ W : Nat → Nat → Hp → Prop, (∃ m, W 0 m H1) ∧ ∀ i m H, W i m H → ((Itt K a).stop i H ∧ Qd H) ∨ ((Itt K a).go i H ∧ ∃ Nx : Hp → Prop, (∀ H', Nx H' → ∃ m', m' < m ∧ W (i + 1) m' H') ∧ ∀ x H', (Itt K a).yld i H x H' → B x H' Nx) := by
  refine ⟨fun i m h => i ≤ xs.length ∧ Pv i h ∧ i + m = xs.length, ⟨xs.length, Nat.zero_le _, h0, by omega⟩, ?_⟩
  rintro i m h ⟨hi, p, em⟩
  have q := hl i h hi p
  by_cases hlt : i < xs.length
  · refine .inr ⟨⟨xs, xs[i], q, List.getElem?_eq_getElem hlt⟩, Pv (i + 1), fun h' p' => ⟨m - 1, by omega, hlt, p', by omega⟩, ?_⟩
    rintro x h' ⟨rfl, y⟩
    exact hs i x _ (y xs q) p
  · have e : i = xs.length := by omega
    subst e
    exact .inl ⟨⟨xs, q, Nat.le_refl _⟩, hd _ p⟩
/-! ### instructions -/
inductive Row where
  | set (a : Nat) (t : Tr)
  | move (a b : Nat)
  | cons (a b c : Nat)
  | head (a b : Nat)
  | tail (a b : Nat)
  | jump (a : Nat) (n : Int)
  deriving DecidableEq
def Row.word : Row → Str
  | .set _ _ => "set"
  | .move _ _ => "move"
  | .cons _ _ _ => "cons"
  | .head _ _ => "head"
  | .tail _ _ => "tail"
  | .jump _ _ => "jump"
def Row.parts : Row → List V
  | .set a t => [.int a, .str (S t.enc)]
  | .move a b => [.int a, .int b]
  | .cons a b c => [.int a, .int b, .int c]
  | .head a b => [.int a, .int b]
  | .tail a b => [.int a, .int b]
  | .jump a n => [.int a, .int n]
def Row.vs (r : Row) : List V := .str r.word :: r.parts
def Row.regs : Row → List Nat
  | .set a _ => [a]
  | .move a b => [a, b]
  | .cons a b c => [a, b, c]
  | .head a b => [a, b]
  | .tail a b => [a, b]
  | .jump a _ => [a]
def Row.ds : Row → List PyData
  | .set a t => [.str ("set" : Str), .int a, .str (S t.enc)]
  | .move a b => [.str ("move" : Str), .int a, .int b]
  | .cons a b c => [.str ("cons" : Str), .int a, .int b, .int c]
  | .head a b => [.str ("head" : Str), .int a, .int b]
  | .tail a b => [.str ("tail" : Str), .int a, .int b]
  | .jump a n => [.str ("jump" : Str), .int a, .int n]
def Row.d (r : Row) : PyData := .tuple r.ds
/-- the tree of a set -/
def Row.tree : Row → Option Tr
  | .set _ t => some t
  | _ => none
def RowAt (K : PySem.W.Frag) (H : Hp) (v : V) (r : Row) : Prop := ∃ p, v = .ref p ∧ SqT K H p r.vs
abbrev PrgL (K : PySem.W.Frag) (H : Hp) : List V → List Row → Prop := Paired (RowAt K H)
/-- a program stands at a -/
def PrgAt (K : PySem.W.Frag) (H : Hp) (a : Addr) (rows : List Row) : Prop := ∃ xs, SqL K H a xs ∧ PrgL K H xs rows
section
variable {K : PySem.W.Frag} {H H' : Hp}
theorem RowAt.mono (e : Ex H H') {v : V} {r : Row} (h : RowAt K H v r) : RowAt K H' v r := by
  obtain ⟨p, e1, h⟩ := h
  exact ⟨p, e1, Evl.ex_t e h⟩
theorem PrgL.mono (e : Ex H H') {xs : List V} {rows : List Row} (h : PrgL K H xs rows) : PrgL K H' xs rows := Paired.mapP h fun _ _ q => q.mono e
theorem PrgAt.mono (e : Ex H H') {a : Addr} {rows : List Row} (h : PrgAt K H a rows) : PrgAt K H' a rows := by
  obtain ⟨xs, h1, h2⟩ := h
  exact ⟨xs, Evl.ex_l e h1, h2.mono e⟩
theorem paired_get {α β : Type} {F : α → β → Prop} : ∀ {xs : List α} {ys : List β} {i : Nat} {x : α}, Paired F xs ys → xs[i]? = some x → ∃ y, ys[i]? = some y ∧ F x y
  | _, _, _, _, .nil, h => by simp at h
  | _, _, 0, _, .cons h t, e => by simp at e; subst e; exact ⟨_, rfl, h⟩
  | _, _, i + 1, _, .cons h t, e => by simp at e; simpa using paired_get t e
theorem paired_get' {α β : Type} {F : α → β → Prop} : ∀ {xs : List α} {ys : List β} {i : Nat} {y : β}, Paired F xs ys → ys[i]? = some y → ∃ x, xs[i]? = some x ∧ F x y
  | _, _, _, _, .nil, h => by simp at h
  | _, _, 0, _, .cons h t, e => by simp at e; subst e; exact ⟨_, rfl, h⟩
  | _, _, i + 1, _, .cons h t, e => by simp at e; simpa using paired_get' t e
theorem paired_app {α β : Type} {F : α → β → Prop} : ∀ {xs xs' : List α} {ys ys' : List β}, Paired F xs ys → Paired F xs' ys' → Paired F (xs ++ xs') (ys ++ ys')
  | _, _, _, _, .nil, h => h
  | _, _, _, _, .cons h t, h' => .cons h (paired_app t h')
theorem paired_rep {α β : Type} {F : α → β → Prop} {x : α} {y : β} (h : F x y) : ∀ n : Nat, Paired F (List.replicate n x) (List.replicate n y)
  | 0 => .nil
  | n + 1 => .cons h (paired_rep h n)
theorem row_dp {v : V} {r : Row} (h : RowAt K H v r) : Dp K H v r.d := by
  obtain ⟨p, rfl, h⟩ := h
  refine .tup h ?_
  cases r with
  | set a t => exact .cons (.str _) (.cons (.int _) (.cons (.str _) .nil))
  | move a b => exact .cons (.str _) (.cons (.int _) (.cons (.int _) .nil))
  | cons a b c => exact .cons (.str _) (.cons (.int _) (.cons (.int _) (.cons (.int _) .nil)))
  | head a b => exact .cons (.str _) (.cons (.int _) (.cons (.int _) .nil))
  | tail a b => exact .cons (.str _) (.cons (.int _) (.cons (.int _) .nil))
  | jump a n => exact .cons (.str _) (.cons (.int _) (.cons (.int _) .nil))
theorem prg_dpAll : ∀ {xs : List V} {rows : List Row}, PrgL K H xs rows → DpAll K H xs (rows.map Row.d)
  | _, _, .nil => .nil
  | _, _, .cons h t => .cons (row_dp h) (prg_dpAll t)
def prgD (rows : List Row) : PyData := .list (rows.map Row.d)
theorem PrgAt.dp {a : Addr} {rows : List Row} (h : PrgAt K H a rows) : Dp K H (.ref a) (prgD rows) := by
  obtain ⟨xs, h1, h2⟩ := h
  exact .lst h1 (prg_dpAll h2)
end
theorem row_nb (r : Row) : nb r.d = true := by
  have hw : ∀ w : Str, (w.cps.all fun c => decide (c < 0x110000)) = true → nb (.str w) = true := fun _ h => h
  cases r with
  | set a t =>
    show (nb (.str ("set" : Str)) && (nb (.int a) && (nb (.str (S t.enc)) && true))) = true
    rw [hw _ (by decide +kernel), nb_S, sOk_enc]; rfl
  | move a b => show (nb (.str ("move" : Str)) && true) = true; rw [hw _ (by decide +kernel)]; rfl
  | cons a b c => show (nb (.str ("cons" : Str)) && true) = true; rw [hw _ (by decide +kernel)]; rfl
  | head a b => show (nb (.str ("head" : Str)) && true) = true; rw [hw _ (by decide +kernel)]; rfl
  | tail a b => show (nb (.str ("tail" : Str)) && true) = true; rw [hw _ (by decide +kernel)]; rfl
  | jump a n => show (nb (.str ("jump" : Str)) && true) = true; rw [hw _ (by decide +kernel)]; rfl
theorem prg_nb : ∀ rows : List Row, nbAll (rows.map Row.d) = true
  | [] => rfl
  | r :: rs => by
    show (nb r.d && nbAll (rs.map Row.d)) = true
    rw [row_nb, prg_nb rs]
    rfl
theorem row_depth (r : Row) : r.d.depth ≤ 1 := by cases r <;> simp [Row.d, Row.ds, PyData.depth, PyData.depthAll]
theorem prg_depth : ∀ rows : List Row, PyData.depthAll (rows.map Row.d) ≤ 1
  | [] => by simp [PyData.depthAll]
  | r :: rs => by
    have h1 := row_depth r
    have h2 := prg_depth rs
    rw [List.map_cons]
    simp only [PyData.depthAll]
    omega
theorem prgD_depth (rows : List Row) : (prgD rows).depth ≤ 2 := by
  have := prg_depth rows
  simp only [prgD, PyData.depth]
  omega
theorem prgD_nb (rows : List Row) : nb (prgD rows) = true := prg_nb rows
theorem prgD_shaped (rows : List Row) : SeqAt.shaped (prgD rows) = true := shaped_of (prgD_nb rows) (by have := prgD_depth rows; omega)
theorem rowD_inj {r s : Row} (h : r.d = s.d) : r = s := by
  have hw : ∀ {a b : Str}, PyData.str a = PyData.str b → a = b := fun h => PyData.str.inj h
  cases r <;> cases s <;> simp only [Row.d, Row.ds, PyData.tuple.injEq, List.cons.injEq, PyData.str.injEq, PyData.int.injEq, and_true, true_and] at h <;>
    first
    | (obtain ⟨h0, _⟩ := h; exact absurd h0 (by decide +kernel))
    | (obtain ⟨h1, h2⟩ := h; rw [enc_inj1 (S_inj h2)]; congr 1; omega)
    | (obtain ⟨h1, h2, h3⟩ := h; congr 1 <;> omega)
    | (obtain ⟨h1, h2⟩ := h; congr 1 <;> omega)
    | (exact absurd h (by simp))
theorem prgD_inj {p q : List Row} (h : prgD p = prgD q) : p = q := by
  have h' := PyData.list.inj h
  have : ∀ p q : List Row, p.map Row.d = q.map Row.d → p = q := by
    intro p
    induction p with
    | nil => intro q h; cases q with
      | nil => rfl
      | cons _ _ => simp at h
    | cons r rs ih => intro q h; cases q with
      | nil => simp at h
      | cons s ss =>
        simp only [List.map_cons, List.cons.injEq] at h
        rw [rowD_inj h.1, ih ss h.2]
  exact this p q h'
theorem prg_eqv (p q : List Row) : PyData.eqv (prgD p) (prgD q) = decide (p = q) :=
  eqv_dec (prgD_nb p) (prgD_nb q) ⟨prgD_inj, fun h => by rw [h]⟩
/-- all but what stands at D stands -/
def Kp (D : Addr) (H H' : Hp) : Prop := ∀ a o, a ≠ D → H a = some o → H' a = some o
theorem Kp.refl (D : Addr) (H : Hp) : Kp D H H := fun _ _ _ h => h
theorem Kp.trans {D : Addr} {H H1 H2 : Hp} (a : Kp D H H1) (b : Kp D H1 H2) : Kp D H H2 := fun x o h e => b x o h (a x o h e)
theorem Kp.of {D : Addr} {H H' : Hp} (e : Ex H H') : Kp D H H' := fun a o _ h => e a o h
theorem Kp.upd {D : Addr} {H H' : Hp} {o : HO} (k : Kp D H H') : Kp D H (upd H' D o) := fun a u h e => by
  rw [upd_ne h]
  exact k a u h e
theorem Kp.ex {D : Addr} {H H' : Hp} (k : Kp D H H') (n : H D = none) : Ex H H' := fun a o h => k a o (ne_of_none h n) h
theorem Kp.exx {D : Addr} {G H H' : Hp} (e : Ex G H) (k : Kp D H H') (n : G D = none) : Ex G H' := fun a o h => k a o (ne_of_none h n) (e a o h)
theorem Kp.t {K : PySem.W.Frag} {D : Addr} {H H' : Hp} {l : List V} (k : Kp D H H') (hD : H D = some (.lst l)) {a : Addr} {xs : List V} (h : SqT K H a xs) : SqT K H' a xs := by
  rcases h with (h | ⟨o, h⟩) | h
  · exact .inl (.inl (k _ _ (fun e => by rw [e, hD] at h; cases h) h))
  · exact .inl (.inr ⟨o, k _ _ (fun e => by rw [e, hD] at h; cases h) h⟩)
  · exact .inr h
theorem Kp.row {K : PySem.W.Frag} {D : Addr} {H H' : Hp} {l : List V} (k : Kp D H H') (hD : H D = some (.lst l)) {v : V} {r : Row} (h : RowAt K H v r) : RowAt K H' v r := by
  obtain ⟨p, e, h⟩ := h
  exact ⟨p, e, k.t hD h⟩
theorem Kp.prg {K : PySem.W.Frag} {D : Addr} {H H' : Hp} {l : List V} (k : Kp D H H') (hD : H D = some (.lst l)) {xs : List V} {rows : List Row} (h : PrgL K H xs rows) : PrgL K H' xs rows := Paired.mapP h fun _ _ q => k.row hD q
/-! ### good programs -/
/-- the instruction with the index at of a program of so many; registers below w -/
def OkRow (w cnt at_ : Nat) : Row → Prop
  | .jump a n => a < w ∧ 0 ≤ (at_ : Int) + n ∧ (at_ : Int) + n ≤ cnt
  | r => ∀ x ∈ r.regs, x < w
def OkPrg (w : Nat) (rows : List Row) : Prop := ∀ i r, rows[i]? = some r → OkRow w rows.length i r
theorem OkRow.regs {w cnt at_ : Nat} {r : Row} (h : OkRow w cnt at_ r) : ∀ x ∈ r.regs, x < w := by
  cases r with
  | jump a n =>
    intro x hx
    rw [List.mem_singleton.mp hx]
    exact h.1
  | _ => exact h
theorem OkPrg.regs {w : Nat} {rows : List Row} (h : OkPrg w rows) : ∀ r ∈ rows, ∀ x ∈ r.regs, x < w := fun r hr => by
  obtain ⟨i, hi, e⟩ := List.getElem_of_mem hr
  exact (h i r (by rw [List.getElem?_eq_getElem hi, e])).regs
def treesLe (n : Nat) (rows : List Row) : Prop := ∀ r ∈ rows, ∀ t, r.tree = some t → t.pairs ≤ n
/-- 1 more than the greatest register, and at least 1 -/
def regsOf (rows : List Row) : List Nat := (rows.map Row.regs).flatten
def wd (rows : List Row) : Nat := (regsOf rows).foldl (fun m r => max m (r + 1)) 1
theorem regs_le (r : Row) : r.regs.length ≤ 3 := by cases r <;> simp [Row.regs]
theorem regsOf_len (rows : List Row) : (regsOf rows).length ≤ 3 * rows.length := by
  unfold regsOf
  induction rows with
  | nil => exact Nat.zero_le _
  | cons r rs ih =>
    have := regs_le r
    rw [List.map_cons, List.flatten_cons, List.length_append, List.length_cons]
    omega
theorem regsOf_take {rows : List Row} {i : Nat} {r : Row} (h : rows[i]? = some r) : regsOf (rows.take (i + 1)) = regsOf (rows.take i) ++ r.regs := by
  unfold regsOf
  rw [take_map h, List.flatten_append, List.flatten_singleton]
theorem foldl_max_ge : ∀ (l : List Nat) (m : Nat), m ≤ l.foldl (fun m r => max m (r + 1)) m ∧ (∀ r ∈ l, r + 1 ≤ l.foldl (fun m r => max m (r + 1)) m) ∧ (l.foldl (fun m r => max m (r + 1)) m = m ∨ ∃ r ∈ l, l.foldl (fun m r => max m (r + 1)) m = r + 1)
  | [], m => ⟨Nat.le_refl _, fun _ h => by simp at h, .inl rfl⟩
  | x :: l, m => by
    obtain ⟨h1, h2, h3⟩ := foldl_max_ge l (max m (x + 1))
    rw [List.foldl_cons]
    refine ⟨by omega, fun r hr => ?_, ?_⟩
    · rcases List.mem_cons.mp hr with h | h
      · rw [h]; omega
      · exact h2 r h
    · rcases h3 with h3 | ⟨r, hr, h3⟩
      · by_cases hm : x + 1 ≤ m
        · left; rw [h3]; omega
        · right; exact ⟨x, List.mem_cons_self, by rw [h3]; omega⟩
      · right; exact ⟨r, List.mem_cons_of_mem _ hr, h3⟩
def wdF (m : Nat) (l : List Nat) : Nat := l.foldl (fun m r => max m (r + 1)) m
theorem wdF_uniq {l : List Nat} {d : Nat} {m : Int} (h : m ∈ (d : Int) :: l.map (fun (r : Nat) => (r : Int) + 1)) (hg : ∀ y, y ∈ (d : Int) :: l.map (fun (r : Nat) => (r : Int) + 1) → y ≤ m) : m = (wdF d l : Nat) := by
  obtain ⟨h1, h2, h3⟩ := foldl_max_ge l d
  have hw : (wdF d l : Int) ≤ m := by
    rcases h3 with h3 | ⟨r, hr, h3⟩
    · have := hg d List.mem_cons_self
      show ((l.foldl (fun m r => max m (r + 1)) d : Nat) : Int) ≤ m
      omega
    · have := hg ((r : Int) + 1) (List.mem_cons_of_mem _ (List.mem_map.mpr ⟨r, hr, rfl⟩))
      show ((l.foldl (fun m r => max m (r + 1)) d : Nat) : Int) ≤ m
      omega
  have hw2 : m ≤ (wdF d l : Int) := by
    show m ≤ ((l.foldl (fun m r => max m (r + 1)) d : Nat) : Int)
    rcases List.mem_cons.mp h with h | h
    · omega
    · obtain ⟨r, hr, e⟩ := List.mem_map.mp h
      have := h2 r hr
      omega
  omega
theorem wd_uniq {rows : List Row} {m : Int} (h : m ∈ (1 : Int) :: (regsOf rows).map (fun (r : Nat) => 1 + (r : Int))) (hg : ∀ y, y ∈ (1 : Int) :: (regsOf rows).map (fun (r : Nat) => 1 + (r : Int)) → y ≤ m) : m = (wd rows : Nat) := by
  obtain ⟨h1, h2, h3⟩ := foldl_max_ge (regsOf rows) 1
  have hw : (wd rows : Int) ≤ m := by
    rcases h3 with h3 | ⟨r, hr, h3⟩
    · have := hg 1 List.mem_cons_self
      show (((regsOf rows).foldl (fun m r => max m (r + 1)) 1 : Nat) : Int) ≤ m
      omega
    · have := hg (1 + (r : Int)) (List.mem_cons_of_mem _ (List.mem_map.mpr ⟨r, hr, rfl⟩))
      show (((regsOf rows).foldl (fun m r => max m (r + 1)) 1 : Nat) : Int) ≤ m
      omega
  have hw2 : m ≤ (wd rows : Int) := by
    show m ≤ (((regsOf rows).foldl (fun m r => max m (r + 1)) 1 : Nat) : Int)
    rcases List.mem_cons.mp h with h | h
    · omega
    · obtain ⟨r, hr, e⟩ := List.mem_map.mp h
      have := h2 r hr
      omega
  omega
end NV
namespace NV
open PySem PySem.Spec PyProof.Rows L2
open Evl (Ex)
/-! ### values of any kind, asked for being a program -/
theorem sql_ty {K : PySem.W.Frag} {H : Hp} {a : Addr} {xs : List V} (h : SqL K H a xs) : TyX K H (.ref a) (.type "list") := by
  rcases h with (h | ⟨o, h⟩) | ⟨o, its, n, h1, h2, _⟩
  · exact .base (.lst h)
  · exact .base (.frz h)
  · exact .kList h1 h2
theorem sqt_ty {K : PySem.W.Frag} {H : Hp} {a : Addr} {xs : List V} (h : SqT K H a xs) : TyX K H (.ref a) (.type "tuple") := by
  rcases h with (h | ⟨o, h⟩) | ⟨o, its, n, h1, h2, _⟩
  · exact .base (.tup h)
  · exact .fTuple h
  · exact .kTuple h1 h2
def wholeD : PyData → Bool
  | .int _ => true
  | _ => false
def regD : PyData → Bool
  | .int i => decide (0 ≤ i) && decide (i < 20)
  | _ => false
def treeD : PyData → Bool
  | .str s => isTr s.cps.toList
  | _ => false
def isRowD (at_ cnt : Int) : PyData → Bool
  | .tuple [.str w, a, b] =>
    if w = "set" then treeD b && regD a
    else if w = "jump" then (match b with | .int n => decide (0 ≤ at_ + n) && decide (at_ + n ≤ cnt) | _ => false) && regD a
    else if w = "move" ∨ w = "head" ∨ w = "tail" then regD a && regD b
    else false
  | .tuple [.str w, a, b, c] => if w = "cons" then regD a && (regD b && regD c) else false
  | _ => false
def rowsD (cnt : Int) : Nat → List PyData → Bool
  | _, [] => true
  | i, d :: ds => isRowD i cnt d && rowsD cnt (i + 1) ds
/-- the signs of the tree of a set -/
def setLen : PyData → Nat
  | .tuple [.str w, _, .str t] => if w = "set" then t.length else 0
  | _ => 0
def isProgD : PyData → Bool
  | .list ds => decide (ds.length ≤ 600) && (rowsD ds.length 0 ds && decide ((ds.map setLen).sum ≤ 200000))
  | _ => false
theorem dp_tr {K : PySem.W.Frag} {H : Hp} {v : V} {d : PyData} (h : Dp K H v d) (hs : ∀ s, d = .str s → s.length ≤ 10000000) : TrAns K H v (treeD d) := by
  cases h with
  | non => exact .non
  | bl b => exact .bl b
  | int i => exact .int i
  | str x =>
    obtain ⟨l, rfl⟩ := S_of x
    exact .str (hs _ rfl)
  | lst h _ => exact .lst (sql_ty h)
  | tup h _ => exact .tup (sqt_ty h)
end NV
namespace NV
open PySem PySem.Spec PyProof.Rows L2
open Evl (Ex)
theorem inV_strs (w : Str) (ws : List Str) : inV (.str w) (ws.map V.str) = decide (w ∈ ws) := by
  have h : inV (.str w) (ws.map V.str) = true ↔ w ∈ ws := by
    unfold inV
    rw [List.any_map, List.any_eq_true]
    constructor
    · rintro ⟨x, hx, e⟩
      have e' : (x == w) = true := e
      rw [← eq_of_beq e']
      exact hx
    · intro hw
      exact ⟨w, hw, show (w == w) = true from beq_self_eq_true w⟩
  by_cases q : w ∈ ws
  · rw [decide_eq_true q, h.mpr q]
  · rw [decide_eq_false q]
    cases z : inV (.str w) (ws.map V.str) with
    | false => rfl
    | true => exact absurd (h.mp z) q
def six : List Str := ["set", "move", "cons", "head", "tail", "jump"]
theorem isRowD_no {at_ cnt : Int} {d : PyData} {ds : List PyData} (h : ∀ w, d ≠ .str w) : isRowD at_ cnt (.tuple (d :: ds)) = false := by
  unfold isRowD
  split
  · rename_i w a b e
    simp only [PyData.tuple.injEq, List.cons.injEq] at e
    exact absurd e.1 (h _)
  · rename_i w a b c e
    simp only [PyData.tuple.injEq, List.cons.injEq] at e
    exact absurd e.1 (h _)
  · rfl
theorem isRowD_word {at_ cnt : Int} {w : Str} {ds : List PyData} (h : w ∉ six) : isRowD at_ cnt (.tuple (.str w :: ds)) = false := by
  have n : w ≠ "set" ∧ w ≠ "move" ∧ w ≠ "cons" ∧ w ≠ "head" ∧ w ≠ "tail" ∧ w ≠ "jump" := by
    refine ⟨?_, ?_, ?_, ?_, ?_, ?_⟩ <;> (rintro rfl; exact h (by decide +kernel))
  obtain ⟨n1, n2, n3, n4, n5, n6⟩ := n
  unfold isRowD
  split
  · rename_i e
    simp only [PyData.tuple.injEq, List.cons.injEq, PyData.str.injEq] at e
    obtain ⟨rfl, _⟩ := e
    rw [if_neg n1, if_neg n6, if_neg (by rintro (q | q | q) <;> first | exact n2 q | exact n4 q | exact n5 q)]
  · rename_i e
    simp only [PyData.tuple.injEq, List.cons.injEq, PyData.str.injEq] at e
    obtain ⟨rfl, _⟩ := e
    rw [if_neg n3]
  · rfl
theorem isRowD_len {at_ cnt : Int} {w : Str} {ds : List PyData} (h : ds.length ≠ (if w = "cons" then 3 else 2)) : isRowD at_ cnt (.tuple (.str w :: ds)) = false := by
  match ds, h with
  | [], _ => rfl
  | [_], _ => rfl
  | [a, b], h =>
    by_cases q : w = "cons"
    · subst q
      simp only [isRowD]
      rw [if_neg (by decide +kernel), if_neg (by decide +kernel), if_neg (by decide +kernel)]
    · rw [if_neg q] at h
      exact absurd rfl h
  | [a, b, c], h =>
    by_cases q : w = "cons"
    · rw [if_pos q] at h
      exact absurd rfl h
    · exact if_neg q
  | _ :: _ :: _ :: _ :: _, _ => rfl
end NV
namespace NV
open PySem PySem.Spec PyProof.Rows L2
open Evl (Ex)
theorem walk_enum {K : PySem.W.Frag} {a : Addr} {xs : List V} {B : V → Hp → (Hp → Prop) → Prop} {Qd : Hp → Prop} {H1 : Hp} (Pv : Nat → Hp → Prop) (h0 : Pv 0 H1) (hl : ∀ i H, i ≤ xs.length → Pv i H → SqL K H a xs)
    (hs : ∀ i x H T, xs[i]? = some x → Pv i H → H T = none → B (.ref T) (upd H T (.tup [.int (i : Nat), x])) (Pv (i + 1))) (hd : ∀ H, Pv xs.length H → Qd H) :
    ∃ W : Nat → Nat → Hp → Prop, (∃ m, W 0 m H1) ∧ ∀ i m H, W i m H → ((Ite K a).stop i H ∧ Qd H) ∨ ((Ite K a).go i H ∧ ∃ Nx : Hp → Prop, (∀ H', Nx H' → ∃ m', m' < m ∧ W (i + 1) m' H') ∧ ∀ x H', (Ite K a).yld i H x H' → B x H' Nx) := by
  refine ⟨fun i m h => i ≤ xs.length ∧ Pv i h ∧ i + m = xs.length, ⟨xs.length, Nat.zero_le _, h0, by omega⟩, ?_⟩
  rintro i m h ⟨hi, p, em⟩
  have q := hl i h hi p
  by_cases hlt : i < xs.length
  · refine .inr ⟨⟨xs, xs[i], q, List.getElem?_eq_getElem hlt⟩, Pv (i + 1), fun h' p' => ⟨m - 1, by omega, hlt, p', by omega⟩, ?_⟩
    rintro x h' ⟨T, y, rfl, hT, rfl, hy⟩
    exact hs i y h T (hy xs q) p hT
  · have e : i = xs.length := by omega
    subst e
    exact .inl ⟨⟨xs, q, Nat.le_refl _⟩, hd _ p⟩
def flagsD (cnt : Int) : Nat → List PyData → List Bool
  | _, [] => []
  | i, d :: ds => isRowD i cnt d :: flagsD cnt (i + 1) ds
theorem flags_snoc (cnt : Int) (d : PyData) : ∀ (xs : List PyData) (j : Nat), flagsD cnt j (xs ++ [d]) = flagsD cnt j xs ++ [isRowD ((j + xs.length : Nat) : Int) cnt d]
  | [], j => rfl
  | x :: xs, j => by
    show isRowD j cnt x :: flagsD cnt (j + 1) (xs ++ [d]) = isRowD j cnt x :: (flagsD cnt (j + 1) xs ++ _)
    rw [flags_snoc cnt d xs (j + 1), List.length_cons, show j + 1 + xs.length = j + (xs.length + 1) by omega]
theorem flags_len (cnt : Int) : ∀ (xs : List PyData) (j : Nat), (flagsD cnt j xs).length = xs.length
  | [], _ => rfl
  | x :: xs, j => by rw [flagsD, List.length_cons, List.length_cons, flags_len cnt xs]
theorem flags_all (cnt : Int) : ∀ (xs : List PyData) (j : Nat), (flagsD cnt j xs).all id = rowsD cnt j xs
  | [], _ => rfl
  | x :: xs, j => by
    show (id (isRowD j cnt x) && (flagsD cnt (j + 1) xs).all id) = _
    rw [flags_all cnt xs (j + 1)]
    rfl
theorem rowsD_get {cnt : Int} : ∀ {xs : List PyData} {j i : Nat} {d : PyData}, rowsD cnt j xs = true → xs[i]? = some d → isRowD ((j + i : Nat) : Int) cnt d = true
  | [], _, _, _, _, h => by simp at h
  | x :: xs, j, 0, d, h, e => by
    simp at e
    subst e
    have h' : (isRowD j cnt x && rowsD cnt (j + 1) xs) = true := h
    rw [Bool.and_eq_true] at h'
    exact h'.1
  | x :: xs, j, i + 1, d, h, e => by
    have h' : (isRowD j cnt x && rowsD cnt (j + 1) xs) = true := h
    rw [Bool.and_eq_true] at h'
    have := rowsD_get (j := j + 1) (i := i) h'.2 (by simpa using e)
    rw [show j + (i + 1) = j + 1 + i by omega]
    exact this
/-- the lengths of the trees of the sets -/
def setL (d : PyData) : List Int := match d with
  | .tuple [.str w, _, .str t] => if w = "set" then [(t.length : Int)] else []
  | _ => []
theorem setL_sum (ds : List PyData) : ((ds.map setL).flatten).sum = ((ds.map setLen).sum : Nat) := by
  induction ds with
  | nil => rfl
  | cons d ds ih =>
    rw [List.map_cons, List.flatten_cons, List.sum_append, ih, List.map_cons, List.sum_cons]
    have : (setL d).sum = ((setLen d : Nat) : Int) := by
      unfold setL setLen
      split
      · split
        · simp
        · rfl
      · rfl
    rw [this]
    omega
theorem row_form {at_ cnt : Int} {d : PyData} (h : isRowD at_ cnt d = true) : (∃ a t, d = .tuple [.str "set", a, .str t] ∧ t.length ≤ 200000) ∨ (∃ w ds, d = .tuple (.str w :: ds) ∧ w ≠ "set" ∧ setL d = []) := by
  unfold isRowD at h
  split at h
  · rename_i w a b
    by_cases q : w = "set"
    · subst q
      rw [if_pos rfl, Bool.and_eq_true] at h
      obtain ⟨ht, _⟩ := h
      cases b with
      | str t =>
        refine .inl ⟨a, t, rfl, ?_⟩
        have ht' : isTr t.cps.toList = true := ht
        unfold isTr at ht'
        rw [Bool.and_eq_true] at ht'
        exact of_decide_eq_true ht'.1
      | _ => cases ht
    · refine .inr ⟨w, [a, b], rfl, q, ?_⟩
      cases b with
      | str t => exact if_neg q
      | _ => rfl
  · rename_i w a b c
    by_cases q : w = "cons"
    · subst q
      exact .inr ⟨"cons", [a, b, c], rfl, by decide +kernel, by simp [setL]⟩
    · rw [if_neg q] at h
      cases h
  · cases h
end NV

set_option Elab.async false
set_option linter.all false
set_option maxRecDepth 100000
set_option maxHeartbeats 4000000
/-! # parts of tuples and lists, small data -/
namespace NV
open PySem PySem.Spec PyProof.Rows L2
open Evl (Ex)
/-- small data, nested less than n deep -/
def sm : Nat → PyData → Bool
  | 0, _ => false
  | n + 1, d => match d with
    | .none => true
    | .bool _ => true
    | .int _ => true
    | .str s => decide (s.length ≤ 20) && s.cps.all (· < 0x110000)
    | .list xs => decide (xs.length ≤ 100) && xs.all (sm n)
    | .tuple xs => decide (xs.length ≤ 100) && xs.all (sm n)
    | .dict _ => false
theorem sm_mono : ∀ {n m : Nat} {d : PyData}, n ≤ m → sm n d = true → sm m d = true
  | 0, _, _, _, h => by cases h
  | n + 1, 0, _, h, _ => by omega
  | n + 1, m + 1, d, h, hs => by
    have ih : ∀ xs : List PyData, xs.all (sm n) = true → xs.all (sm m) = true := fun xs hx => by
      rw [List.all_eq_true] at hx ⊢
      exact fun x q => sm_mono (by omega) (hx x q)
    cases d with
    | none => rfl
    | bool _ => rfl
    | int _ => rfl
    | str s => exact hs
    | list xs =>
      have hs' : (decide (xs.length ≤ 100) && xs.all (sm n)) = true := hs
      rw [Bool.and_eq_true] at hs'
      show (decide (xs.length ≤ 100) && xs.all (sm m)) = true
      rw [hs'.1, ih xs hs'.2]; rfl
    | tuple xs =>
      have hs' : (decide (xs.length ≤ 100) && xs.all (sm n)) = true := hs
      rw [Bool.and_eq_true] at hs'
      show (decide (xs.length ≤ 100) && xs.all (sm m)) = true
      rw [hs'.1, ih xs hs'.2]; rfl
    | dict _ => cases hs
theorem all_lay {xs : List PyData} (h : ∀ x ∈ xs, x.canLay0 = true) : PyData.canLayAll0 xs = true := by
  induction xs with
  | nil => rfl
  | cons x xs ih =>
    show (x.canLay0 && PyData.canLayAll0 xs) = true
    rw [h x List.mem_cons_self, ih fun y hy => h y (List.mem_cons_of_mem _ hy)]
    rfl
theorem all_depth {n : Nat} {xs : List PyData} (h : ∀ x ∈ xs, x.depth ≤ n) : PyData.depthAll xs ≤ n := by
  induction xs with
  | nil => simp [PyData.depthAll]
  | cons x xs ih =>
    have h1 := h x List.mem_cons_self
    have h2 := ih fun y hy => h y (List.mem_cons_of_mem _ hy)
    simp only [PyData.depthAll]
    omega
theorem sm_lay : ∀ {n : Nat} {d : PyData}, sm n d = true → d.canLay0 = true
  | 0, _, h => by cases h
  | n + 1, d, h => by
    cases d with
    | none => rfl
    | bool _ => rfl
    | int _ => rfl
    | str s =>
      have h' : (decide (s.length ≤ 20) && s.cps.all fun c => decide (c < 0x110000)) = true := h
      rw [Bool.and_eq_true] at h'
      exact h'.2
    | list xs =>
      have h' : (decide (xs.length ≤ 100) && xs.all (sm n)) = true := h
      rw [Bool.and_eq_true, List.all_eq_true] at h'
      exact all_lay fun x hx => sm_lay (h'.2 x hx)
    | tuple xs =>
      have h' : (decide (xs.length ≤ 100) && xs.all (sm n)) = true := h
      rw [Bool.and_eq_true, List.all_eq_true] at h'
      exact all_lay fun x hx => sm_lay (h'.2 x hx)
    | dict _ => cases h
theorem sm_depth : ∀ {n : Nat} {d : PyData}, sm n d = true → d.depth ≤ n
  | 0, _, h => by cases h
  | n + 1, d, h => by
    cases d with
    | none => simp [PyData.depth]
    | bool _ => simp [PyData.depth]
    | int _ => simp [PyData.depth]
    | str s => simp [PyData.depth]
    | list xs =>
      have h' : (decide (xs.length ≤ 100) && xs.all (sm n)) = true := h
      rw [Bool.and_eq_true, List.all_eq_true] at h'
      have := all_depth (n := n) fun x hx => sm_depth (h'.2 x hx)
      simp only [PyData.depth]
      omega
    | tuple xs =>
      have h' : (decide (xs.length ≤ 100) && xs.all (sm n)) = true := h
      rw [Bool.and_eq_true, List.all_eq_true] at h'
      have := all_depth (n := n) fun x hx => sm_depth (h'.2 x hx)
      simp only [PyData.depth]
      omega
    | dict _ => cases h
theorem sm_shaped {n : Nat} {d : PyData} (hn : n ≤ 64) (h : sm n d = true) : SeqAt.shaped d = true := by
  have := sm_depth h
  show (d.canLay0 && decide (d.depth ≤ 64)) = true
  rw [sm_lay h, decide_eq_true (by omega)]
  rfl
/-! ### parts -/
theorem DpAll.take {K : PySem.W.Frag} {H : Hp} : ∀ {xs : List V} {ds : List PyData} (n : Nat), DpAll K H xs ds → DpAll K H (xs.take n) (ds.take n)
  | _, _, 0, _ => .nil
  | _, _, _ + 1, .nil => .nil
  | _, _, n + 1, .cons h t => .cons h (DpAll.take n t)
theorem DpAll.drop {K : PySem.W.Frag} {H : Hp} : ∀ {xs : List V} {ds : List PyData} (n : Nat), DpAll K H xs ds → DpAll K H (xs.drop n) (ds.drop n)
  | _, _, 0, h => h
  | _, _, _ + 1, .nil => .nil
  | _, _, n + 1, .cons _ t => DpAll.drop n t
theorem DpAll.app {K : PySem.W.Frag} {H : Hp} : ∀ {xs ys : List V} {ds es : List PyData}, DpAll K H xs ds → DpAll K H ys es → DpAll K H (xs ++ ys) (ds ++ es)
  | _, _, _, _, .nil, h => h
  | _, _, _, _, .cons h t, h' => .cons h (DpAll.app t h')
/-- a tuple at q of these data -/
def TupD (K : PySem.W.Frag) (H : Hp) (q : Addr) (es : List PyData) : Prop := ∃ ys, SqT K H q ys ∧ DpAll K H ys es
def LstD (K : PySem.W.Frag) (H : Hp) (q : Addr) (es : List PyData) : Prop := ∃ ys, H q = some (.lst ys) ∧ DpAll K H ys es
theorem TupD.mono {K : PySem.W.Frag} {H H' : Hp} (e : Ex H H') {q : Addr} {es : List PyData} (h : TupD K H q es) : TupD K H' q es := by
  obtain ⟨ys, h1, h2⟩ := h
  exact ⟨ys, Evl.ex_t e h1, DpAll.mono e _ h2⟩
theorem LstD.mono {K : PySem.W.Frag} {H H' : Hp} (e : Ex H H') {q : Addr} {es : List PyData} (h : LstD K H q es) : LstD K H' q es := by
  obtain ⟨ys, h1, h2⟩ := h
  exact ⟨ys, e _ _ h1, DpAll.mono e _ h2⟩
theorem TupD.dp {K : PySem.W.Frag} {H : Hp} {q : Addr} {es : List PyData} (h : TupD K H q es) : Dp K H (.ref q) (.tuple es) := by
  obtain ⟨ys, h1, h2⟩ := h
  exact .tup h1 h2
theorem LstD.dp {K : PySem.W.Frag} {H : Hp} {q : Addr} {es : List PyData} (h : LstD K H q es) : Dp K H (.ref q) (.list es) := by
  obtain ⟨ys, h1, h2⟩ := h
  exact .lst (.of h1) h2
def cutD (ds : List PyData) (lo hi : Option Int) : List PyData := (ds.drop (HT.sIx ds.length 0 lo)).take (HT.sIx ds.length ds.length hi - HT.sIx ds.length 0 lo)
theorem DpAll.cut {K : PySem.W.Frag} {H : Hp} {xs : List V} {ds : List PyData} (h : DpAll K H xs ds) (lo hi : Option Int) : DpAll K H (cutV xs lo hi) (cutD ds lo hi) := by
  unfold cutV cutD
  rw [DpAll.len h]
  exact DpAll.take _ (DpAll.drop _ h)
theorem cutD_mem {ds : List PyData} {lo hi : Option Int} : ∀ d ∈ cutD ds lo hi, d ∈ ds := fun d h => List.mem_of_mem_drop (List.mem_of_mem_take h)
theorem cutD_len (ds : List PyData) (lo hi : Option Int) : (cutD ds lo hi).length ≤ ds.length := by
  unfold cutD
  rw [List.length_take, List.length_drop]
  omega
theorem cut_tup {K : PySem.W.Frag} {H : Hp} {a : Addr} {ds : List PyData} {lo hi : Option Int} {Q : VK} (h : TupD K H a ds) (k : ∀ q H', Ex H H' → TupD K H' q (cutD ds lo hi) → Q (.ref q) H') : rSlL K (.ref a) lo hi H Q ∨ rSlA K (.ref a) lo hi H Q := by
  obtain ⟨xs, hx, hd⟩ := h
  have hl := DpAll.len hd
  refine .inr ⟨a, xs, rfl, hx, fun w => k a H (Ex.refl H) ⟨xs, hx, ?_⟩, fun _ q nq => k q _ (Evl.Ex.new nq) ⟨_, .of upd_same, DpAll.cut (DpAll.mono (Evl.Ex.new nq) _ hd) lo hi⟩⟩
  have : cutD ds lo hi = ds := by
    unfold cutD
    rw [← hl, w.1, w.2, hl]
    simp
  rw [this]
  exact hd
theorem cut_lst {K : PySem.W.Frag} {H : Hp} {a : Addr} {xs : List V} {ds : List PyData} {lo hi : Option Int} {Q : VK} (hx : SqL K H a xs) (hd : DpAll K H xs ds) (k : ∀ q H', Ex H H' → LstD K H' q (cutD ds lo hi) → Q (.ref q) H') : rSlL K (.ref a) lo hi H Q ∨ rSlA K (.ref a) lo hi H Q :=
  .inl ⟨a, xs, rfl, hx, fun q nq => k q _ (Evl.Ex.new nq) ⟨_, upd_same, DpAll.cut (DpAll.mono (Evl.Ex.new nq) _ hd) lo hi⟩⟩
theorem cat_tup {K : PySem.W.Frag} {H : Hp} {a b : Addr} {ds es : List PyData} {Q : VK} (h1 : TupD K H a ds) (h2 : TupD K H b es) (hl : ds.length + es.length ≤ 10000) (k : ∀ q H', Ex H H' → TupD K H' q (ds ++ es) → Q (.ref q) H') : rCat (.ref a) (.ref b) H Q ∨ rCatA K (.ref a) (.ref b) H Q := by
  obtain ⟨xs, hx, hd⟩ := h1
  obtain ⟨ys, hy, he⟩ := h2
  have l1 := DpAll.len hd
  have l2 := DpAll.len he
  refine .inr ⟨a, b, xs, ys, rfl, rfl, hx, hy, Nat.le_trans (by omega) (show 10000 ≤ sizeLine by decide), fun e => ?_, fun _ e => ?_, fun _ _ q nq => k q _ (Evl.Ex.new nq) ⟨_, .of upd_same, DpAll.app (DpAll.mono (Evl.Ex.new nq) _ hd) (DpAll.mono (Evl.Ex.new nq) _ he)⟩⟩
  · subst e
    cases hd
    exact k b H (Ex.refl H) ⟨ys, hy, he⟩
  · subst e
    cases he
    refine k a H (Ex.refl H) ⟨xs, hx, ?_⟩
    rw [List.append_nil]
    exact hd
theorem cat_lst {K : PySem.W.Frag} {H : Hp} {a b : Addr} {ds es : List PyData} {Q : VK} (h1 : LstD K H a ds) (h2 : LstD K H b es) (hl : ds.length + es.length ≤ 100000) (k : ∀ q H', Ex H H' → LstD K H' q (ds ++ es) → Q (.ref q) H') : rCat (.ref a) (.ref b) H Q ∨ rCatA K (.ref a) (.ref b) H Q := by
  obtain ⟨xs, hx, hd⟩ := h1
  obtain ⟨ys, hy, he⟩ := h2
  have l1 := DpAll.len hd
  have l2 := DpAll.len he
  exact .inl ⟨a, b, xs, ys, rfl, rfl, hx, hy, Nat.le_trans (by omega) (show 100000 ≤ sizeLine by decide), fun q nq => k q _ (Evl.Ex.new nq) ⟨_, upd_same, DpAll.app (DpAll.mono (Evl.Ex.new nq) _ hd) (DpAll.mono (Evl.Ex.new nq) _ he)⟩⟩
end NV

namespace NV
open PySem PySem.Spec PyProof.Rows L2
open Evl (Ex)
def top (i : Nat) : Stmt := PySem.Challenge.pw_narcissus_k06_is_program.main.body.getD i (.Pass ⟨0, 0, 0, 0⟩)
abbrev s_programs_is_whole : Stmt := top 8
theorem sc_programs_is_whole : FnScope ["value"] ["value"] (defScope s_programs_is_whole) := ⟨rfl, rfl, rfl, by decide +kernel, rfl, by decide +kernel, by decide +kernel⟩
abbrev s_trees_is_tree : Stmt := top 2
theorem sc_trees_is_tree : FnScope ["value", "missing", "sign"] ["value"] (defScope s_trees_is_tree) := ⟨rfl, rfl, rfl, by decide +kernel, rfl, by decide +kernel, by decide +kernel⟩
abbrev s_programs_is_instruction : Stmt := top 9
theorem sc_programs_is_instruction : FnScope ["value", "at", "count", "word", "registers", "part"] ["value", "at", "count"] (defScope s_programs_is_instruction) := ⟨rfl, rfl, rfl, by decide +kernel, rfl, by decide +kernel, by decide +kernel⟩
abbrev s_programs_is_program : Stmt := top 10
theorem sc_programs_is_program : FnScope ["value", "at", "row"] ["value"] (defScope s_programs_is_program) := ⟨rfl, rfl, rfl, by decide +kernel, rfl, by decide +kernel, by decide +kernel⟩
abbrev s_L_draw : Stmt := top 13
theorem sc_L_draw : FnScope ["_law_stream_here", "_law_many", "_law_value"] ["_law_stream_here", "_law_many"] (defScope s_L_draw) := ⟨rfl, rfl, rfl, by decide +kernel, rfl, by decide +kernel, by decide +kernel⟩
abbrev s_L_is_whole : Stmt := top 19
theorem sc_L_is_whole : FnScope ["_law_value"] ["_law_value"] (defScope s_L_is_whole) := ⟨rfl, rfl, rfl, by decide +kernel, rfl, by decide +kernel, by decide +kernel⟩
abbrev s_L_is_tree : Stmt := top 20
theorem sc_L_is_tree : FnScope ["_law_value", "_law_missing", "_law_sign"] ["_law_value"] (defScope s_L_is_tree) := ⟨rfl, rfl, rfl, by decide +kernel, rfl, by decide +kernel, by decide +kernel⟩
abbrev s_L_is_row : Stmt := top 21
theorem sc_L_is_row : FnScope ["_law_row", "_law_at", "_law_many", "_law_numbers", "_law_number"] ["_law_row", "_law_at", "_law_many"] (defScope s_L_is_row) := ⟨rfl, rfl, rfl, by decide +kernel, rfl, by decide +kernel, by decide +kernel⟩
abbrev s_L_due : Stmt := top 22
theorem sc_L_due : FnScope ["_law_value", "_law_at"] ["_law_value"] (defScope s_L_due) := ⟨rfl, rfl, rfl, by decide +kernel, rfl, by decide +kernel, by decide +kernel⟩
abbrev s_L_changed : Stmt := top 23
theorem sc_L_changed : FnScope ["_law_stream_here", "_law_program_here", "_law_at", "_law_row", "_law_pick", "_law_spot", "_law_values"] ["_law_stream_here", "_law_program_here"] (defScope s_L_changed) := ⟨rfl, rfl, rfl, by decide +kernel, rfl, by decide +kernel, by decide +kernel⟩
abbrev s_L_tree : Stmt := top 14
theorem sc_L_tree : FnScope ["_law_stream_here", "_law_pairs", "_law_signs", "_law_missing"] ["_law_stream_here", "_law_pairs"] (defScope s_L_tree) := ⟨rfl, rfl, rfl, by decide +kernel, rfl, by decide +kernel, by decide +kernel⟩
abbrev s_L_program : Stmt := top 18
theorem sc_L_program : FnScope ["_law_stream_here", "_law_most", "_law_wide", "_law_many", "_law_rows", "_law_at", "_law_word", "_law_a", "_law_b"] ["_law_stream_here", "_law_most", "_law_wide"] (defScope s_L_program) := ⟨rfl, rfl, rfl, by decide +kernel, rfl, by decide +kernel, by decide +kernel⟩
abbrev s_L_stream : Stmt := top 12
theorem sc_L_stream : FnScope ["_law_script", "_law_mixed", "_law_cell"] ["_law_script"] (defScope s_L_stream) := ⟨rfl, rfl, rfl, by decide +kernel, rfl, by decide +kernel, by decide +kernel⟩
abbrev s_L_law : Stmt := top 24
theorem sc_L_law : FnScope ["_law_script", "_law_stream_here", "_law_value", "_law_due_here", "_law_kept", "_law_row", "_law_actual", "_law_many", "_law_tree_here"] ["_law_script"] (defScope s_L_law) := ⟨rfl, rfl, rfl, by decide +kernel, rfl, by decide +kernel, by decide +kernel⟩
structure Txt (K : PySem.W.Frag) (mg : Str → Option Value) (w : World) : Prop where
  m_MOST_CODE : ∃ t, mg "MOST_CODE" = some (.int 600 t)
  m_MOST_TREE : ∃ t, mg "MOST_TREE" = some (.int 200000 t)
  m_PARTS : GDict K w mg "PARTS" [("set", .int 3), ("move", .int 3), ("cons", .int 4), ("head", .int 3), ("tail", .int 3), ("jump", .int 3)]
  m_REGISTERS : ∃ t, mg "REGISTERS" = some (.int 20 t)
  m_WORDS : GTup K mg "WORDS" [.str "set", .str "move", .str "cons", .str "head", .str "tail", .str "jump"]
  n_abs : mg "abs" = none
  n_all : mg "all" = none
  n_bool : mg "bool" = none
  n_enumerate : mg "enumerate" = none
  n_int : mg "int" = none
  n_isinstance : mg "isinstance" = none
  n_len : mg "len" = none
  n_list : mg "list" = none
  n_range : mg "range" = none
  n_str : mg "str" = none
  n_sum : mg "sum" = none
  n_tuple : mg "tuple" = none
  f_programs_is_whole : Fn K mg "is_whole" "is_whole" s_programs_is_whole ["value"]
  f_trees_is_tree : Fn K mg "is_tree" "is_tree" s_trees_is_tree ["value"]
  f_programs_is_instruction : Fn K mg "is_instruction" "is_instruction" s_programs_is_instruction ["value", "at", "count"]
  f_programs_is_program : Fn K mg "is_program" "is_program" s_programs_is_program ["value"]
  f_L_draw : Fn K mg "_law_draw" "_law_draw" s_L_draw ["_law_stream_here", "_law_many"]
  f_L_is_whole : Fn K mg "_law_is_whole" "_law_is_whole" s_L_is_whole ["_law_value"]
  f_L_is_tree : Fn K mg "_law_is_tree" "_law_is_tree" s_L_is_tree ["_law_value"]
  f_L_is_row : Fn K mg "_law_is_row" "_law_is_row" s_L_is_row ["_law_row", "_law_at", "_law_many"]
  f_L_due : Fn K mg "_law_due" "_law_due" s_L_due ["_law_value"]
  f_L_changed : Fn K mg "_law_changed" "_law_changed" s_L_changed ["_law_stream_here", "_law_program_here"]
  f_L_tree : Fn K mg "_law_tree" "_law_tree" s_L_tree ["_law_stream_here", "_law_pairs"]
  f_L_program : Fn K mg "_law_program" "_law_program" s_L_program ["_law_stream_here", "_law_most", "_law_wide"]
  f_L_stream : Fn K mg "_law_stream" "_law_stream" s_L_stream ["_law_script"]
theorem txt_mk {K : PySem.W.Frag} {w : World} {h : Heap} {mg : Str → Option Value} (X : K.In h) (G : h.Ns mainGlobals mg)
    {tk1 : Tok} (z1 : PySem.W.nsIn K mainGlobals "MOST_CODE" = some (some (.int 600 tk1)))
    {tk2 : Tok} (z2 : PySem.W.nsIn K mainGlobals "MOST_TREE" = some (some (.int 200000 tk2)))
    {d3 : Addr} {es3 : Array DictEntry} {nn3 : Nat} {td3_0 td3_1 td3_2 td3_3 td3_4 td3_5 : Tok} (z3 : PySem.W.nsIn K mainGlobals "PARTS" = some (some (.ref d3))) (y3 : K.lookup d3 = some ⟨.type "dict", none, .dict es3 nn3, #[]⟩) (u3 : PySem.W.KeysLit w.params es3.toList) (v3 : (d3 == sysModules) = false)
    (o3_0 : PySem.W.nsIn K d3 "set" = some (some (.int 3 td3_0)))
    (o3_1 : PySem.W.nsIn K d3 "move" = some (some (.int 3 td3_1)))
    (o3_2 : PySem.W.nsIn K d3 "cons" = some (some (.int 4 td3_2)))
    (o3_3 : PySem.W.nsIn K d3 "head" = some (some (.int 3 td3_3)))
    (o3_4 : PySem.W.nsIn K d3 "tail" = some (some (.int 3 td3_4)))
    (o3_5 : PySem.W.nsIn K d3 "jump" = some (some (.int 3 td3_5)))
    {tk4 : Tok} (z4 : PySem.W.nsIn K mainGlobals "REGISTERS" = some (some (.int 20 tk4)))
    {a5 : Addr} {tq5_0 tq5_1 tq5_2 tq5_3 tq5_4 tq5_5 : Tok} {dd5 : Option Addr} {nn5 : Nat} {sl5 : Array (Option Value)} (z5 : PySem.W.nsIn K mainGlobals "WORDS" = some (some (.ref a5))) (y5 : K.lookup a5 = some ⟨.type "tuple", dd5, .seq #[.str "set" tq5_0, .str "move" tq5_1, .str "cons" tq5_2, .str "head" tq5_3, .str "tail" tq5_4, .str "jump" tq5_5] nn5, sl5⟩)
    (z6 : PySem.W.nsIn K mainGlobals "abs" = some none)
    (z7 : PySem.W.nsIn K mainGlobals "all" = some none)
    (z8 : PySem.W.nsIn K mainGlobals "bool" = some none)
    (z9 : PySem.W.nsIn K mainGlobals "enumerate" = some none)
    (z10 : PySem.W.nsIn K mainGlobals "int" = some none)
    (z11 : PySem.W.nsIn K mainGlobals "isinstance" = some none)
    (z12 : PySem.W.nsIn K mainGlobals "len" = some none)
    (z13 : PySem.W.nsIn K mainGlobals "list" = some none)
    (z14 : PySem.W.nsIn K mainGlobals "range" = some none)
    (z15 : PySem.W.nsIn K mainGlobals "str" = some none)
    (z16 : PySem.W.nsIn K mainGlobals "sum" = some none)
    (z17 : PySem.W.nsIn K mainGlobals "tuple" = some none)
    {f18 : Addr} {od18 an18 : Option Addr} {sl18 : Array (Option Value)} {oc18 kV18 dc18 pm18 cd18 ct18 : Value}
    (a18 : PySem.W.nsIn K mainGlobals "is_whole" = some (some (.ref f18))) (l18 : K.lookup f18 = some ⟨oc18, od18, .func (PySem.W.fnOf "is_whole" "is_whole" (defArgs s_programs_is_whole) (defBody s_programs_is_whole) (defScope s_programs_is_whole) .none kV18 dc18 pm18 an18 cd18 ct18), sl18⟩) (c18 : PySem.W.codeIn K cd18 "is_whole" = true) (k18 : PySem.W.keepIn K (.ref f18) = true)
    {f19 : Addr} {od19 an19 : Option Addr} {sl19 : Array (Option Value)} {oc19 kV19 dc19 pm19 cd19 ct19 : Value}
    (a19 : PySem.W.nsIn K mainGlobals "is_tree" = some (some (.ref f19))) (l19 : K.lookup f19 = some ⟨oc19, od19, .func (PySem.W.fnOf "is_tree" "is_tree" (defArgs s_trees_is_tree) (defBody s_trees_is_tree) (defScope s_trees_is_tree) .none kV19 dc19 pm19 an19 cd19 ct19), sl19⟩) (c19 : PySem.W.codeIn K cd19 "is_tree" = true) (k19 : PySem.W.keepIn K (.ref f19) = true)
    {f20 : Addr} {od20 an20 : Option Addr} {sl20 : Array (Option Value)} {oc20 kV20 dc20 pm20 cd20 ct20 : Value}
    (a20 : PySem.W.nsIn K mainGlobals "is_instruction" = some (some (.ref f20))) (l20 : K.lookup f20 = some ⟨oc20, od20, .func (PySem.W.fnOf "is_instruction" "is_instruction" (defArgs s_programs_is_instruction) (defBody s_programs_is_instruction) (defScope s_programs_is_instruction) .none kV20 dc20 pm20 an20 cd20 ct20), sl20⟩) (c20 : PySem.W.codeIn K cd20 "is_instruction" = true) (k20 : PySem.W.keepIn K (.ref f20) = true)
    {f21 : Addr} {od21 an21 : Option Addr} {sl21 : Array (Option Value)} {oc21 kV21 dc21 pm21 cd21 ct21 : Value}
    (a21 : PySem.W.nsIn K mainGlobals "is_program" = some (some (.ref f21))) (l21 : K.lookup f21 = some ⟨oc21, od21, .func (PySem.W.fnOf "is_program" "is_program" (defArgs s_programs_is_program) (defBody s_programs_is_program) (defScope s_programs_is_program) .none kV21 dc21 pm21 an21 cd21 ct21), sl21⟩) (c21 : PySem.W.codeIn K cd21 "is_program" = true) (k21 : PySem.W.keepIn K (.ref f21) = true)
    {f22 : Addr} {od22 an22 : Option Addr} {sl22 : Array (Option Value)} {oc22 kV22 dc22 pm22 cd22 ct22 : Value}
    (a22 : PySem.W.nsIn K mainGlobals "_law_draw" = some (some (.ref f22))) (l22 : K.lookup f22 = some ⟨oc22, od22, .func (PySem.W.fnOf "_law_draw" "_law_draw" (defArgs s_L_draw) (defBody s_L_draw) (defScope s_L_draw) .none kV22 dc22 pm22 an22 cd22 ct22), sl22⟩) (c22 : PySem.W.codeIn K cd22 "_law_draw" = true) (k22 : PySem.W.keepIn K (.ref f22) = true)
    {f23 : Addr} {od23 an23 : Option Addr} {sl23 : Array (Option Value)} {oc23 kV23 dc23 pm23 cd23 ct23 : Value}
    (a23 : PySem.W.nsIn K mainGlobals "_law_is_whole" = some (some (.ref f23))) (l23 : K.lookup f23 = some ⟨oc23, od23, .func (PySem.W.fnOf "_law_is_whole" "_law_is_whole" (defArgs s_L_is_whole) (defBody s_L_is_whole) (defScope s_L_is_whole) .none kV23 dc23 pm23 an23 cd23 ct23), sl23⟩) (c23 : PySem.W.codeIn K cd23 "_law_is_whole" = true) (k23 : PySem.W.keepIn K (.ref f23) = true)
    {f24 : Addr} {od24 an24 : Option Addr} {sl24 : Array (Option Value)} {oc24 kV24 dc24 pm24 cd24 ct24 : Value}
    (a24 : PySem.W.nsIn K mainGlobals "_law_is_tree" = some (some (.ref f24))) (l24 : K.lookup f24 = some ⟨oc24, od24, .func (PySem.W.fnOf "_law_is_tree" "_law_is_tree" (defArgs s_L_is_tree) (defBody s_L_is_tree) (defScope s_L_is_tree) .none kV24 dc24 pm24 an24 cd24 ct24), sl24⟩) (c24 : PySem.W.codeIn K cd24 "_law_is_tree" = true) (k24 : PySem.W.keepIn K (.ref f24) = true)
    {f25 : Addr} {od25 an25 : Option Addr} {sl25 : Array (Option Value)} {oc25 kV25 dc25 pm25 cd25 ct25 : Value}
    (a25 : PySem.W.nsIn K mainGlobals "_law_is_row" = some (some (.ref f25))) (l25 : K.lookup f25 = some ⟨oc25, od25, .func (PySem.W.fnOf "_law_is_row" "_law_is_row" (defArgs s_L_is_row) (defBody s_L_is_row) (defScope s_L_is_row) .none kV25 dc25 pm25 an25 cd25 ct25), sl25⟩) (c25 : PySem.W.codeIn K cd25 "_law_is_row" = true) (k25 : PySem.W.keepIn K (.ref f25) = true)
    {f26 : Addr} {od26 an26 : Option Addr} {sl26 : Array (Option Value)} {oc26 kV26 dc26 pm26 cd26 ct26 : Value}
    (a26 : PySem.W.nsIn K mainGlobals "_law_due" = some (some (.ref f26))) (l26 : K.lookup f26 = some ⟨oc26, od26, .func (PySem.W.fnOf "_law_due" "_law_due" (defArgs s_L_due) (defBody s_L_due) (defScope s_L_due) .none kV26 dc26 pm26 an26 cd26 ct26), sl26⟩) (c26 : PySem.W.codeIn K cd26 "_law_due" = true) (k26 : PySem.W.keepIn K (.ref f26) = true)
    {f27 : Addr} {od27 an27 : Option Addr} {sl27 : Array (Option Value)} {oc27 kV27 dc27 pm27 cd27 ct27 : Value}
    (a27 : PySem.W.nsIn K mainGlobals "_law_changed" = some (some (.ref f27))) (l27 : K.lookup f27 = some ⟨oc27, od27, .func (PySem.W.fnOf "_law_changed" "_law_changed" (defArgs s_L_changed) (defBody s_L_changed) (defScope s_L_changed) .none kV27 dc27 pm27 an27 cd27 ct27), sl27⟩) (c27 : PySem.W.codeIn K cd27 "_law_changed" = true) (k27 : PySem.W.keepIn K (.ref f27) = true)
    {f28 : Addr} {od28 an28 : Option Addr} {sl28 : Array (Option Value)} {oc28 kV28 dc28 pm28 cd28 ct28 : Value}
    (a28 : PySem.W.nsIn K mainGlobals "_law_tree" = some (some (.ref f28))) (l28 : K.lookup f28 = some ⟨oc28, od28, .func (PySem.W.fnOf "_law_tree" "_law_tree" (defArgs s_L_tree) (defBody s_L_tree) (defScope s_L_tree) .none kV28 dc28 pm28 an28 cd28 ct28), sl28⟩) (c28 : PySem.W.codeIn K cd28 "_law_tree" = true) (k28 : PySem.W.keepIn K (.ref f28) = true)
    {f29 : Addr} {od29 an29 : Option Addr} {sl29 : Array (Option Value)} {oc29 kV29 dc29 pm29 cd29 ct29 : Value}
    (a29 : PySem.W.nsIn K mainGlobals "_law_program" = some (some (.ref f29))) (l29 : K.lookup f29 = some ⟨oc29, od29, .func (PySem.W.fnOf "_law_program" "_law_program" (defArgs s_L_program) (defBody s_L_program) (defScope s_L_program) .none kV29 dc29 pm29 an29 cd29 ct29), sl29⟩) (c29 : PySem.W.codeIn K cd29 "_law_program" = true) (k29 : PySem.W.keepIn K (.ref f29) = true)
    {f30 : Addr} {od30 an30 : Option Addr} {sl30 : Array (Option Value)} {oc30 kV30 dc30 pm30 cd30 ct30 : Value}
    (a30 : PySem.W.nsIn K mainGlobals "_law_stream" = some (some (.ref f30))) (l30 : K.lookup f30 = some ⟨oc30, od30, .func (PySem.W.fnOf "_law_stream" "_law_stream" (defArgs s_L_stream) (defBody s_L_stream) (defScope s_L_stream) .none kV30 dc30 pm30 an30 cd30 ct30), sl30⟩) (c30 : PySem.W.codeIn K cd30 "_law_stream" = true) (k30 : PySem.W.keepIn K (.ref f30) = true)
    : Txt K mg w :=
  ⟨⟨_, PySem.W.mg_of X G z1⟩,
   ⟨_, PySem.W.mg_of X G z2⟩,
   gdict_mk X G z3 y3 u3 v3 (lookup_all (fun q hq => (by simp only [List.mem_cons, List.not_mem_nil, or_false] at hq; rcases hq with rfl | rfl | rfl | rfl | rfl | rfl; exact ⟨_, o3_0, _, rfl⟩; exact ⟨_, o3_1, _, rfl⟩; exact ⟨_, o3_2, _, rfl⟩; exact ⟨_, o3_3, _, rfl⟩; exact ⟨_, o3_4, _, rfl⟩; exact ⟨_, o3_5, _, rfl⟩))),
   ⟨_, PySem.W.mg_of X G z4⟩,
   ⟨a5, PySem.W.mg_of X G z5, fun _ => .inr ⟨_, _, _, y5, rfl, rfl, (by show 6 ≤ sizeLine; decide), .cons ⟨_, rfl⟩ (.cons ⟨_, rfl⟩ (.cons ⟨_, rfl⟩ (.cons ⟨_, rfl⟩ (.cons ⟨_, rfl⟩ (.cons ⟨_, rfl⟩ (.nil))))))⟩⟩,
   PySem.W.mg_none_of X G z6,
   PySem.W.mg_none_of X G z7,
   PySem.W.mg_none_of X G z8,
   PySem.W.mg_none_of X G z9,
   PySem.W.mg_none_of X G z10,
   PySem.W.mg_none_of X G z11,
   PySem.W.mg_none_of X G z12,
   PySem.W.mg_none_of X G z13,
   PySem.W.mg_none_of X G z14,
   PySem.W.mg_none_of X G z15,
   PySem.W.mg_none_of X G z16,
   PySem.W.mg_none_of X G z17,
   fn_mk X G a18 l18 c18 k18 (fun _ _ _ _ _ _ us hl => match us, hl with | [_], _ => rfl),
   fn_mk X G a19 l19 c19 k19 (fun _ _ _ _ _ _ us hl => match us, hl with | [_], _ => rfl),
   fn_mk X G a20 l20 c20 k20 (fun _ _ _ _ _ _ us hl => match us, hl with | [_, _, _], _ => rfl),
   fn_mk X G a21 l21 c21 k21 (fun _ _ _ _ _ _ us hl => match us, hl with | [_], _ => rfl),
   fn_mk X G a22 l22 c22 k22 (fun _ _ _ _ _ _ us hl => match us, hl with | [_, _], _ => rfl),
   fn_mk X G a23 l23 c23 k23 (fun _ _ _ _ _ _ us hl => match us, hl with | [_], _ => rfl),
   fn_mk X G a24 l24 c24 k24 (fun _ _ _ _ _ _ us hl => match us, hl with | [_], _ => rfl),
   fn_mk X G a25 l25 c25 k25 (fun _ _ _ _ _ _ us hl => match us, hl with | [_, _, _], _ => rfl),
   fn_mk X G a26 l26 c26 k26 (fun _ _ _ _ _ _ us hl => match us, hl with | [_], _ => rfl),
   fn_mk X G a27 l27 c27 k27 (fun _ _ _ _ _ _ us hl => match us, hl with | [_, _], _ => rfl),
   fn_mk X G a28 l28 c28 k28 (fun _ _ _ _ _ _ us hl => match us, hl with | [_, _], _ => rfl),
   fn_mk X G a29 l29 c29 k29 (fun _ _ _ _ _ _ us hl => match us, hl with | [_, _, _], _ => rfl),
   fn_mk X G a30 l30 c30 k30 (fun _ _ _ _ _ _ us hl => match us, hl with | [_], _ => rfl)⟩
def sp_programs_is_whole (K : PySem.W.Frag) (_ : Str → Option Value) : Sp := fun vs H Q _ => ∃ (v : V) (d : PyData), vs = [v] ∧ Dp K H v d ∧ Q (.bl (wholeD d)) H

section
variable {P : Program} {w : World} {K : PySem.W.Frag} {mg : Str → Option Value} {base : Heap}
theorem ok_programs_is_whole (T : Txt K mg w) : Cal P w K mg base CX0 1 "is_whole" ["value"] (sp_programs_is_whole K mg) := by
  refine T.f_programs_is_whole.ok sc_programs_is_whole (fun vs H Q E h => (by obtain ⟨_, _, rfl, _⟩ := h; rfl)) (fun f cdv A outer s H vs Q E hr h => ⟨_, (pss_one (ps_ret (pe_and (pe_callB (cIsi (K := K)) (by rfl) T.n_isinstance PyProof.Rows.boot_isinstance (pa_cons (nv 0) (pa_cons (nTy T.n_int PyProof.Rows.boot_int) pa_nil))) (pe_one (pe_not (pe_callB (cIsi (K := K)) (by rfl) T.n_isinstance PyProof.Rows.boot_isinstance (pa_cons (nv 0) (pa_cons (nTy T.n_bool PyProof.Rows.boot_bool) pa_nil)))))))), ?_⟩)
  obtain ⟨v, d, rfl, hd, k⟩ := h
  cases hd with
  | non => exact ⟨false, rfl, false, rfl, k⟩
  | bl b => exact ⟨true, rfl, true, rfl, true, rfl, true, rfl, k⟩
  | int i => exact ⟨true, rfl, true, rfl, false, rfl, false, rfl, k⟩
  | str s => exact ⟨false, rfl, false, rfl, k⟩
  | lst h _ => exact ⟨_, false, sql_ty h, rfl, false, rfl, k⟩
  | tup h _ => exact ⟨_, false, sqt_ty h, rfl, false, rfl, k⟩
end
def sp_trees_is_tree (K : PySem.W.Frag) (_ : Str → Option Value) : Sp := fun vs H Q _ => ∃ (v : V) (b : Bool), vs = [v] ∧ TrAns K H v b ∧ Q (.bl b) H

section
variable {P : Program} {w : World} {K : PySem.W.Frag} {mg : Str → Option Value} {base : Heap}
theorem ok_trees_is_tree (T : Txt K mg w) : Cal P w K mg base CX0 1 "is_tree" ["value"] (sp_trees_is_tree K mg) := by
  refine T.f_trees_is_tree.ok sc_trees_is_tree (fun vs H Q E h => (by obtain ⟨_, _, rfl, _⟩ := h; rfl)) (fun f cdv A outer s H vs Q E hr h => ⟨_, (pss_cons (ps_if (PW.pt (pw_or (pt_not (nVal (pe_callB (cIsi (K := K)) (by rfl) T.n_isinstance PyProof.Rows.boot_isinstance (pa_cons (nv 0) (pa_cons (nTy T.n_str PyProof.Rows.boot_str) pa_nil))))) (pw_or1 (nCmp oGt (pe_callB (cLen (K := K)) (by rfl) T.n_len PySem.boot_len (pa_cons (nv 0) pa_nil)) (nGlobI T.m_MOST_TREE) (nomark _))))) (pss_one (ps_ret pe_bl)) pss_nil)
      (pss_cons (ps_set (i := 1) sc_trees_is_tree.nd rfl (.inl rfl) pe_int)
      (pss_cons (ps_for PassesOwn.never rfl (piAny (K := K) (nv 0)) (pg_name (i := 2) sc_trees_is_tree.nd rfl (.inl rfl)) (pss_cons (ps_if (PW.pt (pw_or (nCmp (oEq (K := K) hr.units) (nv 1) pe_int (nomark _)) (pw_or1 (nCmp (oNotIn (K := K)) (nv 2) pe_str (by rfl))))) (pss_one (ps_ret pe_bl)) pss_nil)
      (pss_one (ps_if (nCmp (oEq (K := K) hr.units) (nv 2) pe_str (nomark _)) (pss_one (ps_aug (i := 1) sc_trees_is_tree.nd rfl (.inl rfl) pe_int ip_add)) (pss_one (ps_aug (i := 1) sc_trees_is_tree.nd rfl (.inl rfl) pe_int ip_sub))))))
      (pss_one (ps_ret (pe_cmpR (oEq (K := K) hr.units) (nv 1) pe_int (nomark _))))))), ?_⟩)
  obtain ⟨v, b, rfl, av, k'⟩ := h
  cases av with
  | @str l hl =>
    have hz : (S l).length ≤ sizeLine := Nat.le_trans hl (by decide)
    refine ⟨true, rfl, hz, iteD (fun hg => ?_) (fun hg => ?_)⟩
    · have e : isTr l = false := by
        unfold isTr
        rw [decide_eq_false (by have : (l.length : Int) > 200000 := hg; omega)]
        rfl
      rw [e] at k'
      exact k'
    · have hle : l.length ≤ 200000 := by
        have : ¬ ((l.length : Int) > 200000) := hg
        omega
      have ei : isTr l = decide (scan 1 l = some 0) := by
        unfold isTr
        rw [decide_eq_true hle, Bool.true_and]
      rw [ei] at k'
      refine for_str (z := l) (fun i σ' H' => H' = H ∧ ∃ (m : Nat) (c : Option V), σ' = [some (.str (S l)), some (.int m), c] ∧ scan m (l.drop i) = scan 1 l) ⟨rfl, 1, none, rfl, rfl⟩ ?_ ?_
      · rintro i c σ' H' hc ⟨rfl, m, v, rfl, hm⟩
        rw [drop_cons hc] at hm
        have out : scan 1 l = none → Q (.bl false) H' := fun e => by
          rw [e] at k'
          exact k'
        refine iteI (fun e => out ?_) (fun e => ⟨c, rfl, iteN (fun e2 => out ?_) (fun hin => ?_)⟩)
        · have : m = 0 := by omega
          rw [this] at hm
          exact hm.symm
        · obtain ⟨j, rfl⟩ : ∃ j, m = j + 1 := ⟨m - 1, by omega⟩
          have ne : c ≠ 49 ∧ c ≠ 48 := ⟨fun q => e2 (by rw [q]; decide), fun q => e2 (by rw [q]; decide)⟩
          rw [scan_other j _ ne.1 ne.2] at hm
          exact hm.symm
        · obtain ⟨j, rfl⟩ : ∃ j, m = j + 1 := ⟨m - 1, by omega⟩
          have cs : c = 48 ∨ c = 49 := by
            have : c ∈ [48, 49] := hin
            simpa using this
          refine iteS (fun e1 => ?_) (fun e1 => ?_)
          · have : c = 49 := by
              have := S_inj (a := [c]) (b := [49]) e1
              simpa using this
            subst this
            exact ⟨_, rfl, _, _, rfl, rfl, rfl, j + 2, _, rfl, hm⟩
          · have : c = 48 := by
              rcases cs with h | h
              · exact h
              · exact absurd (by rw [h]; rfl) e1
            subst this
            refine ⟨_, rfl, _, _, rfl, rfl, rfl, j, some (.str (S [48])), ?_, hm⟩
            show [some (V.str (S l)), some (V.int (((j + 1 : Nat) : Int) - 1)), some (V.str (S [48]))] = _
            rw [show ((j + 1 : Nat) : Int) - 1 = (j : Int) by omega]
      · rintro σ' H' ⟨rfl, m, v, rfl, hm⟩
        rw [List.drop_length, scan_nil] at hm
        show Q (.bl (decide (V.int (m : Int) = V.int 0))) H'
        have e : decide (V.int (m : Int) = V.int 0) = decide (scan 1 l = some 0) := by
          rw [← hm]
          by_cases h0 : m = 0
          · rw [h0]; rfl
          · rw [decide_eq_false (fun q => h0 (by have := V.int.inj q; omega)), decide_eq_false (fun q => h0 (Option.some.inj q))]
        rw [e]
        exact k'
  | lst ty => exact ⟨_, false, ty, rfl, k'⟩
  | tup ty => exact ⟨_, false, ty, rfl, k'⟩
  | non => exact ⟨false, rfl, k'⟩
  | int _ => exact ⟨false, rfl, k'⟩
  | bl _ => exact ⟨false, rfl, k'⟩
end
theorem regs_all {K : PySem.W.Frag} {mg : Str → Option Value} {x0 x1 x2 x3 : Option V} {q : Addr} {x5 : Option V} {ys : List V} {es : List PyData} {H : Hp} {Q : VK} (hq : SqT K H q ys) (ha : DpAll K H ys es) (hl : es.length ≤ 1000) (k : ∀ H', Ex H H' → Q (.bl (es.all regD)) H') :
    tCB (rAll K) (tCons (tLc (iAnyU K (mV 4)) (gName 5) tYes (tAndV (mCall (sp_programs_is_whole K mg) E0 (tCons (mV 5) tNil)) (tChain (rCI fun i j => decide (i ≤ j)) (rCI fun i j => decide (i < j)) (tC (.int 0)) (mV 5) (tC (.int 20)))) [5]) tNil)
      [x0, x1, x2, x3, some (.ref q), x5] H Q := by
  have hz : sizeLine = 16777216 := sizeLine_eq
  have hyl := DpAll.len ha
  refine .inr ⟨⟨_, hq⟩, fun D nD => lc_tup (K := K) (a := q) (xs := ys) (fun i H' => H' = upd H D (.lst ((es.take i).map fun d => V.bl (regD d)))) rfl (fun i H' _ e => by rw [e]; exact Evl.ex_t (Evl.Ex.new nD) hq) ?_ ?_⟩
  · rintro i x H' hx rfl
    obtain ⟨d, hd, hxd⟩ := DpAll.get ha hx
    have exD := Evl.Ex.new (o := .lst ((es.take i).map fun d => V.bl (regD d))) nD
    have last : ∀ b : Bool, b = regD d → ∃ acc, (upd H D (.lst ((es.take i).map fun d => V.bl (regD d)))) D = some (.lst acc) ∧ acc.length < sizeLine ∧ upd (upd H D (.lst ((es.take i).map fun d => V.bl (regD d)))) D (.lst (acc ++ [V.bl b])) = upd H D (.lst ((es.take (i + 1)).map fun d => V.bl (regD d))) := by
      intro b hb
      refine ⟨_, upd_same, by rw [List.length_map, List.length_take]; omega, ?_⟩
      rw [upd_upd, take_map hd, hb]
    refine ⟨rfl, x, d, rfl, Dp.mono exD _ hxd, ?_⟩
    refine ⟨wholeD d, rfl, iteB (fun hw => ?_) (fun hw => ?_)⟩
    · cases hxd with
      | int n =>
        refine ⟨_, rfl, iteD (fun h0 => ?_) (fun h0 => ?_)⟩
        · exact last _ (by show _ = (decide (0 ≤ n) && decide (n < 20)); rw [decide_eq_true h0]; rfl)
        · exact last _ (by show _ = (decide (0 ≤ n) && decide (n < 20)); rw [decide_eq_false h0]; rfl)
      | _ => cases hw
    · refine last _ ?_
      cases d with
      | int n => cases hw
      | _ => rfl
  · rintro H' rfl
    rw [hyl, List.take_length]
    refine ⟨D, es.map regD, rfl, .of (by rw [upd_same, List.map_map]; rfl), ?_⟩
    rw [List.all_map]
    exact k _ (Evl.Ex.new nD)
def sp_programs_is_instruction (K : PySem.W.Frag) (_ : Str → Option Value) : Sp := fun vs H Q _ => ∃ (v : V) (d : PyData) (at_ cnt : Int), vs = [v, .int at_, .int cnt] ∧ Dp K H v d ∧ (∀ a b s, d = .tuple [a, b, .str s] → s.length ≤ 10000000) ∧ (∀ ds, d = .tuple ds → ds.length ≤ 1000) ∧ ∀ H', Ex H H' → Q (.bl (isRowD at_ cnt d)) H'

section
variable {P : Program} {w : World} {K : PySem.W.Frag} {mg : Str → Option Value} {base : Heap}
theorem ok_programs_is_instruction (T : Txt K mg w)
    (c_programs_is_whole : Cal P w K mg base CX0 1 "is_whole" ["value"] (sp_programs_is_whole K mg))
    (c_trees_is_tree : Cal P w K mg base CX0 1 "is_tree" ["value"] (sp_trees_is_tree K mg)) : Cal P w K mg base CX0 2 "is_instruction" ["value", "at", "count"] (sp_programs_is_instruction K mg) := by
  refine T.f_programs_is_instruction.ok sc_programs_is_instruction (fun vs H Q E h => (by obtain ⟨_, _, _, _, rfl, _⟩ := h; rfl)) (fun f cdv A outer s H vs Q E hr h => ⟨_, (pss_cons (ps_if (PW.pt (pw_or (pt_not (nVal (pe_callB (cIsi (K := K)) (by rfl) T.n_isinstance PyProof.Rows.boot_isinstance (pa_cons (nv 0) (pa_cons (nTy T.n_tuple PyProof.Rows.boot_tuple) pa_nil))))) (pw_or (pt_not (pt_truth (nv 0) (by intro _; rfl))) (pw_or (pt_not (nVal (pe_callB (cIsi (K := K)) (by rfl) T.n_isinstance PyProof.Rows.boot_isinstance (pa_cons (pe_ix (ixU (K := K)) (nv 0) pe_int (fun _ _ => rfl)) (pa_cons (nTy T.n_str PyProof.Rows.boot_str) pa_nil))))) (pw_or1 (nCmp (oNotIn (K := K)) (pe_ix (ixU (K := K)) (nv 0) pe_int (fun _ _ => rfl)) (nGlobT T.m_WORDS) (by rfl))))))) (pss_one (ps_ret pe_bl)) pss_nil)
      (pss_cons (ps_set (i := 3) sc_programs_is_instruction.nd rfl (.inl rfl) (pe_ix (ixU (K := K)) (nv 0) pe_int (fun _ _ => rfl)))
      (pss_cons (ps_if (nCmp (oNe (K := K) hr.units) (pe_callB (cLen (K := K)) (by rfl) T.n_len PySem.boot_len (pa_cons (nv 0) pa_nil)) (nDict T.m_PARTS (nv 3) (fun _ _ => rfl)) (nomark _)) (pss_one (ps_ret pe_bl)) pss_nil)
      (pss_cons (ps_set (i := 4) sc_programs_is_instruction.nd rfl (.inl rfl) (pe_slice (slU (K := K)) (nv 0) (po_some pe_int) po_none))
      (pss_cons (ps_if (nCmp (oEq (K := K) hr.units) (nv 3) pe_str (nomark _)) (pss_cons (ps_if (pt_not (nVal (nCall c_trees_is_tree (hr.mono (by decide)) pass0 (pa_cons (pe_ix (ixU (K := K)) (nv 0) pe_int (fun _ _ => rfl)) pa_nil)))) (pss_one (ps_ret pe_bl)) pss_nil)
      (pss_one (ps_set (i := 4) sc_programs_is_instruction.nd rfl (.inl rfl) (pe_slice (slU (K := K)) (nv 0) (po_some pe_int) (po_some pe_int))))) pss_nil)
      (pss_cons (ps_if (nCmp (oEq (K := K) hr.units) (nv 3) pe_str (nomark _)) (pss_cons (ps_if (PW.pt (pw_or (pt_not (nVal (nCall c_programs_is_whole (hr.mono (by decide)) pass0 (pa_cons (pe_ix (ixU (K := K)) (nv 0) pe_int (fun _ _ => rfl)) pa_nil)))) (pw_or1 (pt_not (pt_chain oLe oLe pe_int (pe_op (oAdd (K := K)) (nv 1) (pe_ix (ixU (K := K)) (nv 0) pe_int (fun _ _ => rfl))) (nv 2)))))) (pss_one (ps_ret pe_bl)) pss_nil)
      (pss_one (ps_set (i := 4) sc_programs_is_instruction.nd rfl (.inl rfl) (pe_slice (slU (K := K)) (nv 0) (po_some pe_int) (po_some pe_int))))) pss_nil)
      (pss_one (ps_ret (pe_callB (cr_all rfl) (by rfl) T.n_all PyProof.Rows.boot_all (pa_cons (pe_lc (own := [("part", 5)]) (g := gName 5) (tt := tYes) rfl sc_programs_is_instruction.nd (piAny (K := K) (nv 4)) (blkOk_by (own := [("part", 5)]) (N := ["value", "at", "count", "word", "registers", "part"]) (sc := defScope s_programs_is_instruction) (by decide +kernel)) (fun _ _ _ _ _ => (pg_name (i := 5) sc_programs_is_instruction.nd rfl (.inl rfl))) (fun _ _ _ _ _ => pts_nil) (fun _ _ _ _ _ => (pe_and (nCall c_programs_is_whole (hr.mono (by decide)) pass0 (pa_cons (nv 5) pa_nil)) (pe_one (pe_chain oLe oLt pe_int (nv 5) (nGlobI T.m_REGISTERS)))))) pa_nil)))))))))), ?_⟩)
  obtain ⟨v, d, at_, cnt, rfl, hd, hs, hn, k⟩ := h
  have hz : sizeLine = 16777216 := sizeLine_eq
  cases hd with
  | non => exact ⟨false, rfl, k _ (Ex.refl _)⟩
  | bl b => exact ⟨false, rfl, k _ (Ex.refl _)⟩
  | int i => exact ⟨false, rfl, k _ (Ex.refl _)⟩
  | str s => exact ⟨false, rfl, k _ (Ex.refl _)⟩
  | lst h _ => exact ⟨_, false, sql_ty h, rfl, k _ (Ex.refl _)⟩
  | @tup a xs ds hx ha =>
    refine ⟨_, true, sqt_ty hx, rfl, ?_⟩
    cases ha with
    | nil => exact ⟨false, .inr (.inl ⟨_, hx, rfl⟩), k _ (Ex.refl _)⟩
    | @cons x0 xr d0 dr h0 hr =>
      refine ⟨true, .inr (.inl ⟨_, hx, rfl⟩), ?_⟩
      refine ⟨_, _, .inr hx, atI_nat (j := 0) rfl, ?_⟩
      have no : (∀ w, d0 ≠ .str w) → ∀ H', Ex H H' → Q (.bl false) H' := fun q H' e => by
        have := k H' e
        rw [isRowD_no q] at this
        exact this
      cases h0 with
      | non => exact ⟨false, rfl, no (fun _ q => by cases q) _ (Ex.refl _)⟩
      | bl b => exact ⟨false, rfl, no (fun _ q => by cases q) _ (Ex.refl _)⟩
      | int i => exact ⟨false, rfl, no (fun _ q => by cases q) _ (Ex.refl _)⟩
      | lst h _ => exact ⟨_, false, sql_ty h, rfl, no (fun _ q => by cases q) _ (Ex.refl _)⟩
      | tup h _ => exact ⟨_, false, sqt_ty h, rfl, no (fun _ q => by cases q) _ (Ex.refl _)⟩
      | str w =>
        refine ⟨true, rfl, _, _, .inr hx, atI_nat (j := 0) rfl, fun wa hwa => ⟨six.map V.str, .inr (hwa H), rfl, by decide +kernel, ?_⟩⟩
        rw [inV_strs]
        refine iteN (fun hw => ?_) (fun hw => ?_)
        · have := k H (Ex.refl H)
          rw [isRowD_word hw] at this
          exact this
        -- the word is one of six: what stands behind its place is its parts
        have xl := DpAll.len hr
        have len : ∀ n : Int, ((((.str w :: xr : List V).length : Nat) : Int) = n) ↔ (dr.length : Int) + 1 = n := fun n => by
          rw [List.length_cons, xl]
          omega
        have hcases : w = "set" ∨ w = "move" ∨ w = "cons" ∨ w = "head" ∨ w = "tail" ∨ w = "jump" := by
          unfold six at hw
          simp only [List.mem_cons, List.not_mem_nil, or_false] at hw
          exact hw
        have out : ∀ {n : Nat}, dr.length ≠ n → n = (if w = "cons" then 3 else 2) → ∀ H', Ex H H' → Q (.bl false) H' := fun h1 h2 H' e => by
          have := k H' e
          rw [isRowD_len (by rw [← h2]; exact h1)] at this
          exact this
        rcases hcases with rfl | rfl | rfl | rfl | rfl | rfl
        · refine ⟨_, _, .inr hx, atI_nat (j := 0) rfl, _, .inr hx, iteNI (fun hne => out (n := 2) (fun e => hne (by rw [len, e]; rfl)) (by decide +kernel) _ (Ex.refl _)) (fun he => ?_)⟩
          have hl : dr.length = 2 := by have := (len _).mp he; omega
          match dr, hr, hl with
          | [d1, d2], .cons (v := x1) h1 (.cons (v := x2) h2 .nil), _ =>
            refine ⟨1, rfl, .inr ⟨a, _, rfl, hx, fun w => absurd (show (1 : Nat) = 0 from w.1) (by decide), fun _ q nq => ?_⟩⟩
            have e1 := Evl.Ex.new (o := .tup (cutV [.str "set", x1, x2] (some 1) none)) nq
            have hx1 := Evl.ex_t e1 hx
            refine ⟨_, _, .inr hx1, rfl, x2, treeD d2, rfl, dp_tr (Dp.mono e1 _ h2) (fun s q => hs (.str "set") d1 s (by rw [q])), ?_⟩
            refine iteB (fun ht => ?_) (fun ht => ?_)
            · have := k _ e1
              have ht' : treeD d2 = false := by
                have : (!treeD d2) = true := ht
                cases q : treeD d2 with
                | false => rfl
                | true => rw [q] at this; cases this
              rw [show isRowD at_ cnt (.tuple [.str "set", d1, d2]) = (treeD d2 && regD d1) from rfl, ht'] at this
              exact this
            · have ht' : treeD d2 = true := by
                have : (!treeD d2) = false := ht
                cases q : treeD d2 with
                | true => rfl
                | false => rw [q] at this; cases this
              refine ⟨1, rfl, 2, rfl, .inr ⟨a, _, rfl, hx1, fun w => absurd (show (1 : Nat) = 0 from w.1) (by decide), fun _ q2 nq2 => ?_⟩⟩
              have e2 := e1.trans (Evl.Ex.new (o := .tup (cutV [.str "set", x1, x2] (some 1) (some 2))) nq2)
              refine regs_all (q := q2) (ys := [x1]) (es := [d1]) (.of upd_same) (.cons (Dp.mono e2 _ h1) .nil) (by show 1 ≤ 1000; decide) (fun H' e => ?_)
              have := k H' (e2.trans e)
              rw [show isRowD at_ cnt (.tuple [.str "set", d1, d2]) = (treeD d2 && regD d1) from rfl, ht'] at this
              rw [show ([d1] : List PyData).all regD = (true && regD d1) by simp]
              exact this
        · refine ⟨_, _, .inr hx, atI_nat (j := 0) rfl, _, .inr hx, iteNI (fun hne => out (n := 2) (fun e => hne (by rw [len, e]; rfl)) (by decide +kernel) _ (Ex.refl _)) (fun he => ?_)⟩
          have hl : dr.length = 2 := by have := (len _).mp he; omega
          match dr, hr, hl with
          | [d1, d2], .cons (v := x1) h1 (.cons (v := x2) h2 .nil), _ =>
            refine ⟨1, rfl, .inr ⟨a, _, rfl, hx, fun w => absurd (show (1 : Nat) = 0 from w.1) (by decide), fun _ q nq => ?_⟩⟩
            have e1 := Evl.Ex.new (o := .tup (cutV [.str "move", x1, x2] (some 1) none)) nq
            refine regs_all (q := q) (ys := [x1, x2]) (es := [d1, d2]) (.of upd_same) (.cons (Dp.mono e1 _ h1) (.cons (Dp.mono e1 _ h2) .nil)) (by show 2 ≤ 1000; decide) (fun H' e => ?_)
            have := k H' (e1.trans e)
            rw [show ([d1, d2] : List PyData).all regD = (regD d1 && regD d2) by simp]
            exact this
        · refine ⟨_, _, .inr hx, atI_nat (j := 0) rfl, _, .inr hx, iteNI (fun hne => out (n := 3) (fun e => hne (by rw [len, e]; rfl)) (by decide +kernel) _ (Ex.refl _)) (fun he => ?_)⟩
          have hl : dr.length = 3 := by have := (len _).mp he; omega
          match dr, hr, hl with
          | [d1, d2, d3], .cons (v := x1) h1 (.cons (v := x2) h2 (.cons (v := x3) h3 .nil)), _ =>
            refine ⟨1, rfl, .inr ⟨a, _, rfl, hx, fun w => absurd (show (1 : Nat) = 0 from w.1) (by decide), fun _ q nq => ?_⟩⟩
            have e1 := Evl.Ex.new (o := .tup (cutV [.str "cons", x1, x2, x3] (some 1) none)) nq
            refine regs_all (q := q) (ys := [x1, x2, x3]) (es := [d1, d2, d3]) (.of upd_same) (.cons (Dp.mono e1 _ h1) (.cons (Dp.mono e1 _ h2) (.cons (Dp.mono e1 _ h3) .nil))) (by show 3 ≤ 1000; decide) (fun H' e => ?_)
            have := k H' (e1.trans e)
            rw [show ([d1, d2, d3] : List PyData).all regD = (regD d1 && (regD d2 && regD d3)) by simp]
            exact this
        · refine ⟨_, _, .inr hx, atI_nat (j := 0) rfl, _, .inr hx, iteNI (fun hne => out (n := 2) (fun e => hne (by rw [len, e]; rfl)) (by decide +kernel) _ (Ex.refl _)) (fun he => ?_)⟩
          have hl : dr.length = 2 := by have := (len _).mp he; omega
          match dr, hr, hl with
          | [d1, d2], .cons (v := x1) h1 (.cons (v := x2) h2 .nil), _ =>
            refine ⟨1, rfl, .inr ⟨a, _, rfl, hx, fun w => absurd (show (1 : Nat) = 0 from w.1) (by decide), fun _ q nq => ?_⟩⟩
            have e1 := Evl.Ex.new (o := .tup (cutV [.str "head", x1, x2] (some 1) none)) nq
            refine regs_all (q := q) (ys := [x1, x2]) (es := [d1, d2]) (.of upd_same) (.cons (Dp.mono e1 _ h1) (.cons (Dp.mono e1 _ h2) .nil)) (by show 2 ≤ 1000; decide) (fun H' e => ?_)
            have := k H' (e1.trans e)
            rw [show ([d1, d2] : List PyData).all regD = (regD d1 && regD d2) by simp]
            exact this
        · refine ⟨_, _, .inr hx, atI_nat (j := 0) rfl, _, .inr hx, iteNI (fun hne => out (n := 2) (fun e => hne (by rw [len, e]; rfl)) (by decide +kernel) _ (Ex.refl _)) (fun he => ?_)⟩
          have hl : dr.length = 2 := by have := (len _).mp he; omega
          match dr, hr, hl with
          | [d1, d2], .cons (v := x1) h1 (.cons (v := x2) h2 .nil), _ =>
            refine ⟨1, rfl, .inr ⟨a, _, rfl, hx, fun w => absurd (show (1 : Nat) = 0 from w.1) (by decide), fun _ q nq => ?_⟩⟩
            have e1 := Evl.Ex.new (o := .tup (cutV [.str "tail", x1, x2] (some 1) none)) nq
            refine regs_all (q := q) (ys := [x1, x2]) (es := [d1, d2]) (.of upd_same) (.cons (Dp.mono e1 _ h1) (.cons (Dp.mono e1 _ h2) .nil)) (by show 2 ≤ 1000; decide) (fun H' e => ?_)
            have := k H' (e1.trans e)
            rw [show ([d1, d2] : List PyData).all regD = (regD d1 && regD d2) by simp]
            exact this
        · refine ⟨_, _, .inr hx, atI_nat (j := 0) rfl, _, .inr hx, iteNI (fun hne => out (n := 2) (fun e => hne (by rw [len, e]; rfl)) (by decide +kernel) _ (Ex.refl _)) (fun he => ?_)⟩
          have hl : dr.length = 2 := by have := (len _).mp he; omega
          match dr, hr, hl with
          | [d1, d2], .cons (v := x1) h1 (.cons (v := x2) h2 .nil), _ =>
            refine ⟨1, rfl, .inr ⟨a, _, rfl, hx, fun w => absurd (show (1 : Nat) = 0 from w.1) (by decide), fun _ q nq => ?_⟩⟩
            have e1 := Evl.Ex.new (o := .tup (cutV [.str "jump", x1, x2] (some 1) none)) nq
            have hx1 := Evl.ex_t e1 hx
            refine ⟨_, _, .inr hx1, rfl, x2, d2, rfl, Dp.mono e1 _ h2, ?_⟩
            have bad : (∀ n : Int, d2 = .int n → ¬ (0 ≤ at_ + n ∧ at_ + n ≤ cnt)) → ∀ H', Ex H H' → Q (.bl false) H' := fun hb H' e => by
              have := k H' e
              have e0 : isRowD at_ cnt (.tuple [.str "jump", d1, d2]) = false := by
                cases d2 with
                | int n =>
                  show ((decide (0 ≤ at_ + n) && decide (at_ + n ≤ cnt)) && regD d1) = false
                  have := hb n rfl
                  by_cases q1 : 0 ≤ at_ + n
                  · rw [decide_eq_true q1, decide_eq_false (fun q2 => this ⟨q1, q2⟩)]; rfl
                  · rw [decide_eq_false q1]; rfl
                | _ => rfl
              rw [e0] at this
              exact this
            refine iteB (fun hw => bad (fun n q => by rw [q] at hw; cases hw) _ e1) (fun hw => ?_)
            cases h2 with
            | int n =>
              refine ⟨_, _, .inr hx1, rfl, ?_⟩
              refine ⟨_, rfl, iteD (fun h0 => ?_) (fun h0 => ?_)⟩
              · refine ⟨_, rfl, iteN (fun h3 => bad (fun m q => by cases q; omega) _ e1) (fun h3 => ?_)⟩
                refine ⟨1, rfl, 2, rfl, .inr ⟨a, _, rfl, hx1, fun w => absurd (show (1 : Nat) = 0 from w.1) (by decide), fun _ q2 nq2 => ?_⟩⟩
                have e2 := e1.trans (Evl.Ex.new (o := .tup (cutV [.str "jump", x1, .int n] (some 1) (some 2))) nq2)
                refine regs_all (q := q2) (ys := [x1]) (es := [d1]) (.of upd_same) (.cons (Dp.mono e2 _ h1) .nil) (by show 1 ≤ 1000; decide) (fun H' e => ?_)
                have := k H' (e2.trans e)
                rw [show isRowD at_ cnt (.tuple [.str "jump", d1, .int n]) = ((decide (0 ≤ at_ + n) && decide (at_ + n ≤ cnt)) && regD d1) from rfl, decide_eq_true h0, decide_eq_true h3] at this
                rw [show ([d1] : List PyData).all regD = (true && regD d1) by simp]
                exact this
              · exact ⟨_, rfl, bad (fun m q => by cases q; omega) _ e1⟩
            | _ => cases hw
end
/-- what is_program may be asked of -/
def askD (d : PyData) : Prop := ∀ ds, d = .list ds → (∀ a b s, PyData.tuple [a, b, .str s] ∈ ds → s.length ≤ 10000000) ∧ (∀ es, PyData.tuple es ∈ ds → es.length ≤ 1000)
def sp_programs_is_program (K : PySem.W.Frag) (_ : Str → Option Value) : Sp := fun vs H Q _ => ∃ (v : V) (d : PyData), vs = [v] ∧ Dp K H v d ∧ askD d ∧ ∀ H', Ex H H' → Q (.bl (isProgD d)) H'

section
variable {P : Program} {w : World} {K : PySem.W.Frag} {mg : Str → Option Value} {base : Heap}
theorem ok_programs_is_program (T : Txt K mg w)
    (c_programs_is_instruction : Cal P w K mg base CX0 2 "is_instruction" ["value", "at", "count"] (sp_programs_is_instruction K mg)) : Cal P w K mg base CX0 3 "is_program" ["value"] (sp_programs_is_program K mg) := by
  refine T.f_programs_is_program.ok sc_programs_is_program (fun vs H Q E h => (by obtain ⟨_, _, rfl, _⟩ := h; rfl)) (fun f cdv A outer s H vs Q E hr h => ⟨_, (pss_cons (ps_if (PW.pt (pw_or (pt_not (nVal (pe_callB (cIsi (K := K)) (by rfl) T.n_isinstance PyProof.Rows.boot_isinstance (pa_cons (nv 0) (pa_cons (nTy T.n_list PyProof.Rows.boot_list) pa_nil))))) (pw_or1 (nCmp oGt (pe_callB (cLen (K := K)) (by rfl) T.n_len PySem.boot_len (pa_cons (nv 0) pa_nil)) (nGlobI T.m_MOST_CODE) (nomark _))))) (pss_one (ps_ret pe_bl)) pss_nil)
      (pss_cons (ps_if (pt_not (nVal (pe_callB (cr_all rfl) (by rfl) T.n_all PyProof.Rows.boot_all (pa_cons (pe_lc (own := [("at", 1), ("row", 2)]) (g := gTup K 2 (gCons (gName 1) (gCons (gName 2) (gNil)))) (tt := tYes) rfl sc_programs_is_program.nd (pi_enum (by rfl) T.n_enumerate (pa_cons (nv 0) pa_nil)) (blkOk_by (own := [("at", 1), ("row", 2)]) (N := ["value", "at", "row"]) (sc := defScope s_programs_is_program) (by decide +kernel)) (fun _ _ _ _ _ => (pg_tup rfl (pgs_cons (pg_name (i := 1) sc_programs_is_program.nd rfl (.inl rfl) (.inr rfl)) (pgs_cons (pg_name (i := 2) sc_programs_is_program.nd rfl (.inl rfl) (.inr rfl)) pgs_nil)))) (fun _ _ _ _ _ => pts_nil) (fun _ _ _ _ _ => (nCall c_programs_is_instruction (hr.mono (by decide)) pass0 (pa_cons (nv 2) (pa_cons (nv 1) (pa_cons (pe_callB (cLen (K := K)) (by rfl) T.n_len PySem.boot_len (pa_cons (nv 0) pa_nil)) pa_nil)))))) pa_nil)))) (pss_one (ps_ret pe_bl)) pss_nil)
      (pss_one (ps_ret (pe_cmpR oLe (pe_callB (cr_sum rfl) (by rfl) T.n_sum PyProof.Rows.boot_sum (pa_cons (pe_lc (own := [("row", 2)]) (g := gName 2) rfl sc_programs_is_program.nd (piAny (K := K) (nv 0)) (blkOk_by (own := [("row", 2)]) (N := ["value", "at", "row"]) (sc := defScope s_programs_is_program) (by decide +kernel)) (fun _ _ _ _ _ => (pg_name (i := 2) sc_programs_is_program.nd rfl (.inl rfl))) (fun _ _ _ _ _ => pts_one (nCmp (oEq (K := K) hr.units) (pe_ix (ixU (K := K)) (nv 2) pe_int (fun _ _ => rfl)) pe_str (nomark _))) (fun _ _ _ _ _ => (pe_callB (cLen (K := K)) (by rfl) T.n_len PySem.boot_len (pa_cons (pe_ix (ixU (K := K)) (nv 2) pe_int (fun _ _ => rfl)) pa_nil)))) pa_nil)) (nGlobI T.m_MOST_TREE) (nomark _)))))), ?_⟩)
  obtain ⟨v, d, rfl, hd, hask, k⟩ := h
  have hz : sizeLine = 16777216 := sizeLine_eq
  cases hd with
  | non => exact ⟨false, rfl, k _ (Ex.refl _)⟩
  | bl b => exact ⟨false, rfl, k _ (Ex.refl _)⟩
  | int i => exact ⟨false, rfl, k _ (Ex.refl _)⟩
  | str s => exact ⟨false, rfl, k _ (Ex.refl _)⟩
  | tup h _ => exact ⟨_, false, sqt_ty h, rfl, k _ (Ex.refl _)⟩
  | @lst a xs ds hx ha =>
    obtain ⟨as1, as2⟩ := hask ds rfl
    have xl := DpAll.len ha
    refine ⟨_, true, sql_ty hx, rfl, _, .inl hx, ?_⟩
    refine iteD (fun hg => ?_) (fun hg => ?_)
    · have := k H (Ex.refl H)
      rw [show isProgD (.list ds) = (decide (ds.length ≤ 600) && (rowsD ds.length 0 ds && decide ((ds.map setLen).sum ≤ 200000))) from rfl, decide_eq_false (by omega), Bool.false_and] at this
      exact this
    have hle : ds.length ≤ 600 := by omega
    rw [show isProgD (.list ds) = (decide (ds.length ≤ 600) && (rowsD ds.length 0 ds && decide ((ds.map setLen).sum ≤ 200000))) from rfl, decide_eq_true hle, Bool.true_and] at k
    -- every row
    refine ⟨a, xs, rfl, hx, fun D nD => walk_enum (K := K) (a := a) (xs := xs) (fun i H' => Ex H H' ∧ H' D = some (.lst ((flagsD ds.length 0 (ds.take i)).map V.bl))) ⟨Evl.Ex.new nD, upd_same⟩ (fun i H' _ e => Evl.ex_l e.1 hx) ?_ ?_⟩
    · rintro i x H' T hx' ⟨ex, hD⟩ nT
      obtain ⟨d, hd, hxd⟩ := DpAll.get ha hx'
      have hi : i < ds.length := (List.getElem?_eq_some_iff.mp hd).1
      have e1 := Evl.Ex.new (o := .tup [.int (i : Nat), x]) nT
      have ex1 := ex.trans e1
      have hD1 := e1 _ _ hD
      refine ⟨T, _, rfl, .of upd_same, rfl, _, _, rfl, _, _, rfl, rfl, rfl, ?_⟩
      generalize upd H' T (.tup [.int (i : Nat), x]) = H1 at e1 ex1 hD1 ⊢
      refine ⟨_, .inl (Evl.ex_l ex1 hx), x, d, i, ds.length, by rw [xl], Dp.mono ex1 _ hxd, fun a b s q => as1 a b s (by rw [← q]; exact mem_of_get hd), fun es q => as2 es (by rw [← q]; exact mem_of_get hd), fun H2 e2 => ?_⟩
      have hD2 := e2 _ _ hD1
      refine ⟨_, hD2, by rw [List.length_map, flags_len, List.length_take]; omega, Evl.Ex.mut (ex1.trans e2) nD, ?_⟩
      rw [upd_same, List.take_add_one, hd]
      show some (HO.lst (_ ++ [V.bl (isRowD (i : Nat) ds.length d)])) = some (.lst ((flagsD ds.length 0 (ds.take i ++ [d])).map V.bl))
      rw [flags_snoc, List.map_append, List.length_take, Nat.min_eq_left (by omega), Nat.zero_add]
      rfl
    · rintro H1 ⟨ex, hD⟩
      rw [xl, List.take_length] at hD
      refine ⟨D, _, rfl, .of hD, ?_⟩
      rw [flags_all]
      refine iteB (fun hb => ?_) (fun hb => ?_)
      · have hb' : rowsD ds.length 0 ds = false := by
          have : (!rowsD ds.length 0 ds) = true := hb
          cases q : rowsD ds.length 0 ds with
          | false => rfl
          | true => rw [q] at this; cases this
        rw [hb'] at k
        exact k H1 ex
      have hb' : rowsD ds.length 0 ds = true := by
        have : (!rowsD ds.length 0 ds) = false := hb
        cases q : rowsD ds.length 0 ds with
        | true => rfl
        | false => rw [q] at this; cases this
      rw [hb', Bool.true_and] at k
      -- the trees together
      have hx1 := Evl.ex_l ex hx
      refine .inl ⟨⟨_, hx1⟩, fun S0 nS => lc_list (K := K) (a := a) (xs := xs) (fun i H' => H' = upd H1 S0 (.lst ((((ds.take i).map setL).flatten).map V.int))) rfl (fun i H' _ e => by rw [e]; exact Evl.ex_l (Evl.Ex.new nS) hx1) ?_ ?_⟩
      · rintro i x H' hx' rfl
        obtain ⟨d, hd, hxd⟩ := DpAll.get ha hx'
        have hi : i < ds.length := (List.getElem?_eq_some_iff.mp hd).1
        have hrow := rowsD_get hb' hd
        have e2 := Evl.Ex.new (o := .lst ((((ds.take i).map setL).flatten).map V.int)) nS
        have hxd2 := Dp.mono (ex.trans e2) _ hxd
        have step : ((ds.take (i + 1)).map setL).flatten = ((ds.take i).map setL).flatten ++ setL d := by
          rw [take_map hd, List.flatten_append, List.flatten_singleton]
        refine ⟨rfl, ?_⟩
        rcases row_form hrow with ⟨a1, t, rfl, ht⟩ | ⟨w, es, rfl, hw, hs⟩
        · cases hxd2 with
          | @tup p ys _ hp hys =>
            cases hys with
            | cons q1 q2 => cases q1 with
              | str => cases q2 with
                | cons q3 q4 => cases q4 with
                  | cons q5 q6 => cases q5 with
                    | str =>
                      cases q6
                      refine ⟨_, _, .inr hp, rfl, ?_⟩
                      refine ⟨_, _, .inr hp, rfl, by omega, _, upd_same, ?_, ?_⟩
                      · rw [List.length_map]
                        have : ∀ l : List PyData, ((l.map setL).flatten).length ≤ l.length := by
                          intro l
                          induction l with
                          | nil => exact Nat.zero_le _
                          | cons d l ih =>
                            rw [List.map_cons, List.flatten_cons, List.length_append, List.length_cons]
                            have : (setL d).length ≤ 1 := by
                              unfold setL
                              split
                              · split <;> simp
                              · simp
                            omega
                        have h2 := this (ds.take i)
                        rw [List.length_take] at h2
                        omega
                      · rw [upd_upd, step, List.map_append]
                        rfl
        · cases hxd2 with
          | @tup p ys _ hp hys =>
            cases hys with
            | cons q1 q2 => cases q1 with
              | str =>
                refine ⟨_, _, .inr hp, atI_nat (j := 0) rfl, iteS (fun q => absurd q hw) (fun _ => ?_)⟩
                show upd H1 S0 _ = _
                rw [step, hs, List.append_nil]
      · rintro H' rfl
        rw [xl, List.take_length]
        refine ⟨S0, ((ds.map setL).flatten), rfl, .of upd_same, ?_⟩
        rw [setL_sum]
        have e3 := ex.trans (Evl.Ex.new (o := .lst (((ds.map setL).flatten).map V.int)) nS)
        have := k _ e3
        have e4 : decide ((ds.map setLen).sum ≤ 200000) = decide ((((ds.map setLen).sum : Nat) : Int) ≤ 200000) := by
          by_cases q : (ds.map setLen).sum ≤ 200000
          · rw [decide_eq_true q, decide_eq_true (by omega)]
          · rw [decide_eq_false q, decide_eq_false (by omega)]
        rw [e4] at this
        exact this
end
def sp_L_drawL (K : PySem.W.Frag) (_ : Str → Option Value) : Sp := fun vs H Q _ => ∃ (p q : Addr) (ns : List Int) (a b c m : Int), vs = [.ref p, .int m] ∧ 0 < m ∧ m < 1000000 ∧ p ≠ q ∧ H q = some (.lst (ns.map V.int)) ∧ H p = some (.lst [.ref q, .int a, .int b, .int c]) ∧ 0 ≤ b ∧
  ∀ (v a' b' c' : Int), 0 ≤ v → v < m → 0 ≤ b' → Q (.int v) (upd H p (.lst [.ref q, .int a', .int b', .int c']))
def sp_L_draw (K : PySem.W.Frag) (_ : Str → Option Value) : Sp := fun vs H Q _ => ∃ (p : Addr) (m : Int), vs = [.ref p, .int m] ∧ 0 < m ∧ m < 1000000 ∧ StrmAt H p ∧ ∀ (v : Int), 0 ≤ v → v < m → StrmAt H p → Q (.int v) H

section
variable {P : Program} {w : World} {K : PySem.W.Frag} {mg : Str → Option Value} {base : Heap}
theorem ok_L_draw (T : Txt K mg w) : Cal P w K mg base CX0 1 "_law_draw" ["_law_stream_here", "_law_many"] (sp_L_draw K mg) := by
  refine Cal.unseal (sp := sp_L_drawL K mg) (T.f_L_draw.ok sc_L_draw (fun vs H Q E h => (by obtain ⟨_, _, _, _, _, _, _, rfl, _⟩ := h; rfl)) (fun f cdv A outer s H vs Q E hr h => ⟨_, (Evl.pss_cut (ps_if (PW.pt (pw_and (nCmp (oEq (K := K) hr.units) (pe_ix (ixU (K := K)) (nv 0) pe_int (fun _ _ => rfl)) pe_int (nomark _)) (pw_and1 (nCmp oLt (pe_ix (ixU (K := K)) (nv 0) pe_int (fun _ _ => rfl)) (pe_callB (cLen (K := K)) (by rfl) T.n_len PySem.boot_len (pa_cons (pe_ix (ixU (K := K)) (nv 0) pe_int (fun _ _ => rfl)) pa_nil)) (nomark _))))) (pss_cons (ps_asg (pe_callB cAbs (by rfl) T.n_abs PyProof.Rows.boot_abs (pa_cons (pe_callTy cInt (by rfl) T.n_int PyProof.Rows.boot_int (pa_cons (pe_ix (ixU (K := K)) (pe_ix (ixU (K := K)) (nv 0) pe_int (fun _ _ => rfl)) (pe_ix (ixU (K := K)) (nv 0) pe_int (fun _ _ => rfl)) (fun _ _ => rfl)) pa_nil)) pa_nil)) (pg_sub (nv 0) pe_int set_list))
      (pss_one (ps_asg (pe_op (oAdd (K := K)) (pe_ix (ixU (K := K)) (nv 0) pe_int (fun _ _ => rfl)) pe_int) (pg_sub (nv 0) pe_int set_list)))) pss_nil)
      (pss_cons (ps_if (nCmp (oEq (K := K) hr.units) (pe_ix (ixU (K := K)) (nv 0) pe_int (fun _ _ => rfl)) pe_int (nomark _)) (pss_cons (ps_asg (pe_op oMod (pe_callTy cInt (by rfl) T.n_int PyProof.Rows.boot_int (pa_cons (pe_op (oAdd (K := K)) (pe_op (oMul (K := K)) (pe_ix (ixU (K := K)) (nv 0) pe_int (fun _ _ => rfl)) pe_int) pe_int) pa_nil)) pe_int) (pg_sub (nv 0) pe_int set_list))
      (pss_one (ps_ret (pe_op oMod (pe_callTy cInt (by rfl) T.n_int PyProof.Rows.boot_int (pa_cons (pe_op oDiv (pe_ix (ixU (K := K)) (nv 0) pe_int (fun _ _ => rfl)) pe_int) pa_nil)) (nv 1))))) pss_nil)
      (pss_cons (ps_set (i := 2) sc_L_draw.nd rfl (.inl rfl) (pe_op oMod (pe_callTy cInt (by rfl) T.n_int PyProof.Rows.boot_int (pa_cons (pe_ix (ixU (K := K)) (nv 0) pe_int (fun _ _ => rfl)) pa_nil)) (nv 1)))
      (pss_cons (ps_asg (pe_op oDiv (pe_ix (ixU (K := K)) (nv 0) pe_int (fun _ _ => rfl)) (nv 1)) (pg_sub (nv 0) pe_int set_list))
      (pss_one (ps_ret (nv 2))))))), ?_⟩)) (fun vs H Q E h => (by obtain ⟨_, _, rfl, _⟩ := h; rfl)) ?_
  · obtain ⟨p, q, ns, a, b, c, m, rfl, hm, hm2, npq, hq, hp, hb, k⟩ := h
    -- behind the refill: the pool and the place are others
    refine ⟨fun σ' H' => σ' = [some (.ref p), some (.int m), none] ∧ ∃ (a' b' : Int), 0 ≤ b' ∧ H' = upd H p (.lst [.ref q, .int a', .int b', .int c]), ?_, ?_⟩
    · refine ⟨_, _, .l hp, rfl, iteI (fun e1 => ?_) (fun e1 => ⟨rfl, a, b, hb, ?_⟩)⟩
      · refine ⟨_, _, .l hp, rfl, _, _, .l hp, rfl, _, .l hq, iteD (fun e2 => ?_) (fun e2 => ⟨rfl, a, b, hb, ?_⟩)⟩
        · obtain ⟨z, hx⟩ := atI_int hb e2
          refine ⟨_, _, .l hp, rfl, _, _, .l hp, rfl, _, _, .l hq, hx, p, _, 1, 1, rfl, rfl, hp, rfl, ?_⟩
          refine ⟨_, _, .l upd_same, rfl, p, _, 2, 2, rfl, rfl, upd_same, rfl, rfl, _, b + 1, by omega, upd_upd⟩
        · exact (upd_self hp).symm
      · exact (upd_self hp).symm
    · rintro σ' H' ⟨rfl, a', b', hb', rfl⟩
      refine ⟨_, _, .l upd_same, rfl, iteI (fun e1 => ?_) (fun e1 => ?_)⟩
      · refine ⟨_, _, .l upd_same, rfl, .inr ⟨by decide, by decide⟩, by decide, p, _, 3, 3, rfl, rfl, upd_same, rfl, ?_⟩
        refine ⟨_, _, .l upd_same, rfl, ⟨by decide, by decide⟩, hm, ?_⟩
        rw [upd_upd]
        exact k _ _ _ _ (Int.emod_nonneg _ (by omega)) (Int.emod_lt_of_pos _ hm) hb'
      · refine ⟨_, _, .l upd_same, rfl, hm, _, _, .l upd_same, rfl, ⟨hm, by omega⟩, p, _, 1, 1, rfl, rfl, upd_same, rfl, ?_⟩
        rw [upd_upd]
        exact k _ _ _ _ (Int.emod_nonneg _ (by omega)) (Int.emod_lt_of_pos _ hm) hb'
  · rintro vs H Q E ⟨p, m, rfl, hm, hm2, st, k⟩
    refine ⟨p, st, fun q ns a b c hp hq hb => ⟨p, q, ns, a, b, c, m, rfl, hm, hm2, ?_, ?_, upd_same, hb, fun v a' b' c' h0 h1 h2 => ⟨k v h0 h1 st, a', b', c', h2, rfl⟩⟩⟩
    · intro e; rw [e, hq] at hp; cases hp
    · rw [upd_ne (fun e => by rw [e, hp] at hq; cases hq)]; exact hq
end
def sp_L_is_whole (K : PySem.W.Frag) (_ : Str → Option Value) : Sp := fun vs H Q _ => ∃ (v : V) (d : PyData), vs = [v] ∧ Dp K H v d ∧ Q (.bl (wholeD d)) H

section
variable {P : Program} {w : World} {K : PySem.W.Frag} {mg : Str → Option Value} {base : Heap}
theorem ok_L_is_whole (T : Txt K mg w) : Cal P w K mg base CX0 1 "_law_is_whole" ["_law_value"] (sp_L_is_whole K mg) := by
  refine T.f_L_is_whole.ok sc_L_is_whole (fun vs H Q E h => (by obtain ⟨_, _, rfl, _⟩ := h; rfl)) (fun f cdv A outer s H vs Q E hr h => ⟨_, (pss_one (ps_ret (pe_and (pe_callB (cIsi (K := K)) (by rfl) T.n_isinstance PyProof.Rows.boot_isinstance (pa_cons (nv 0) (pa_cons (nTy T.n_int PyProof.Rows.boot_int) pa_nil))) (pe_one (pe_not (pe_callB (cIsi (K := K)) (by rfl) T.n_isinstance PyProof.Rows.boot_isinstance (pa_cons (nv 0) (pa_cons (nTy T.n_bool PyProof.Rows.boot_bool) pa_nil)))))))), ?_⟩)
  obtain ⟨v, d, rfl, hd, k⟩ := h
  cases hd with
  | non => exact ⟨false, rfl, false, rfl, k⟩
  | bl b => exact ⟨true, rfl, true, rfl, true, rfl, true, rfl, k⟩
  | int i => exact ⟨true, rfl, true, rfl, false, rfl, false, rfl, k⟩
  | str s => exact ⟨false, rfl, false, rfl, k⟩
  | lst h _ => exact ⟨_, false, sql_ty h, rfl, false, rfl, k⟩
  | tup h _ => exact ⟨_, false, sqt_ty h, rfl, false, rfl, k⟩
end
def sp_L_is_tree (K : PySem.W.Frag) (_ : Str → Option Value) : Sp := fun vs H Q _ => ∃ (v : V) (d : PyData), vs = [v] ∧ Dp K H v d ∧ (∀ s, d = .str s → s.length ≤ 200000) ∧ ∀ H', Ex H H' → Q (.bl (treeD d)) H'

section
variable {P : Program} {w : World} {K : PySem.W.Frag} {mg : Str → Option Value} {base : Heap}
theorem ok_L_is_tree (T : Txt K mg w) : Cal P w K mg base CX0 1 "_law_is_tree" ["_law_value"] (sp_L_is_tree K mg) := by
  refine T.f_L_is_tree.ok sc_L_is_tree (fun vs H Q E h => (by obtain ⟨_, _, rfl, _⟩ := h; rfl)) (fun f cdv A outer s H vs Q E hr h => ⟨_, (pss_cons (ps_if (pt_not (nVal (pe_callB (cIsi (K := K)) (by rfl) T.n_isinstance PyProof.Rows.boot_isinstance (pa_cons (nv 0) (pa_cons (nTy T.n_str PyProof.Rows.boot_str) pa_nil))))) (pss_one (ps_ret pe_bl)) pss_nil)
      (pss_cons (ps_set (i := 1) sc_L_is_tree.nd rfl (.inl rfl) pe_int)
      (pss_cons (ps_for PassesOwn.never rfl (piAny (K := K) (nv 0)) (pg_name (i := 2) sc_L_is_tree.nd rfl (.inl rfl)) (pss_cons (ps_if (PW.pt (pw_or (nCmp (oEq (K := K) hr.units) (nv 1) pe_int (nomark _)) (pw_or1 (nCmp (oNotIn (K := K)) (nv 2) (pe_tup (pa_cons pe_str (pa_cons pe_str pa_nil))) (by rfl))))) (pss_one (ps_ret pe_bl)) pss_nil)
      (pss_one (ps_set (i := 1) sc_L_is_tree.nd rfl (.inl rfl) (pe_op oSub (pe_op (oAdd (K := K)) (nv 1) pe_int) (pe_op (oMul (K := K)) pe_int (pe_callTy cInt (by rfl) T.n_int PyProof.Rows.boot_int (pa_cons (pe_cmpR (oEq (K := K) hr.units) (nv 2) pe_str (nomark _)) pa_nil))))))))
      (pss_one (ps_ret (pe_cmpR (oEq (K := K) hr.units) (nv 1) pe_int (nomark _))))))), ?_⟩)
  obtain ⟨v, d, rfl, hd, hs, k'⟩ := h
  cases hd with
  | str x =>
    obtain ⟨l, rfl⟩ := S_of x
    have hle : l.length ≤ 200000 := hs _ rfl
    have hz : (S l).length ≤ sizeLine := Nat.le_trans hle (by decide)
    have ei : treeD (.str (S l)) = decide (scan 1 l = some 0) := by
      show isTr l = _
      unfold isTr
      rw [decide_eq_true hle, Bool.true_and]
    rw [ei] at k'
    refine ⟨true, rfl, for_str (z := l) (fun i σ' H' => Ex H H' ∧ ∃ (m : Nat) (c : Option V), σ' = [some (.str (S l)), some (.int m), c] ∧ scan m (l.drop i) = scan 1 l) ⟨Ex.refl H, 1, none, rfl, rfl⟩ ?_ ?_⟩
    · rintro i c σ' H' hc ⟨ex, m, v, rfl, hm⟩
      rw [drop_cons hc] at hm
      have out : scan 1 l = none → ∀ H2, Ex H H2 → Q (.bl false) H2 := fun e H2 e2 => by
        rw [e] at k'
        exact k' H2 e2
      refine iteI (fun e => out ?_ H' ex) (fun e => ⟨by show 2 ≤ sizeLine; decide, fun p np => ⟨_, .t upd_same, rfl, rfl, ?_⟩⟩)
      · have : m = 0 := by omega
        rw [this] at hm
        exact hm.symm
      · obtain ⟨j, rfl⟩ : ∃ j, m = j + 1 := ⟨m - 1, by omega⟩
        have ex2 := ex.trans (Evl.Ex.new (o := .tup [.str ("0" : Str), .str ("1" : Str)]) np)
        refine iteB (fun hb => out ?_ _ ex2) (fun hb => ?_)
        · have hb' : (!inV (.str (S [c])) [.str ("0" : Str), .str ("1" : Str)]) = true := hb
          rw [inV01] at hb'
          have ne : c ≠ 49 ∧ c ≠ 48 := by
            constructor <;> (intro q; rw [q] at hb'; cases hb')
          rw [scan_other j _ ne.1 ne.2] at hm
          exact hm.symm
        · have hb' : (!inV (.str (S [c])) [.str ("0" : Str), .str ("1" : Str)]) = false := hb
          rw [inV01] at hb'
          refine ⟨.inl ⟨by decide, by decide⟩, ex2, ?_⟩
          by_cases h0 : c = 48
          · subst h0
            refine ⟨j, some (.str (S [48])), ?_, hm⟩
            show [some (V.str (S l)), some (V.int (((j + 1 : Nat) : Int) + 1 - 2 * 1)), some (V.str (S [48]))] = _
            rw [show ((j + 1 : Nat) : Int) + 1 - 2 * 1 = (j : Int) by omega]
          · have h1 : c = 49 := by
              rw [decide_eq_false h0] at hb'
              by_cases h : c = 49
              · exact h
              · rw [decide_eq_false h] at hb'; cases hb'
            subst h1
            refine ⟨j + 2, some (.str (S [49])), ?_, hm⟩
            show [some (V.str (S l)), some (V.int (((j + 1 : Nat) : Int) + 1 - 2 * 0)), some (V.str (S [49]))] = _
            rw [show ((j + 1 : Nat) : Int) + 1 - 2 * 0 = ((j + 2 : Nat) : Int) by omega]
    · rintro σ' H' ⟨ex, m, v, rfl, hm⟩
      rw [List.drop_length, scan_nil] at hm
      show Q (.bl (decide (V.int (m : Int) = V.int 0))) H'
      have e : decide (V.int (m : Int) = V.int 0) = decide (scan 1 l = some 0) := by
        rw [← hm]
        by_cases h0 : m = 0
        · rw [h0]; rfl
        · rw [decide_eq_false (fun q => h0 (by have := V.int.inj q; omega)), decide_eq_false (fun q => h0 (Option.some.inj q))]
      rw [e]
      exact k' H' ex
  | non => exact ⟨false, rfl, k' _ (Ex.refl _)⟩
  | bl b => exact ⟨false, rfl, k' _ (Ex.refl _)⟩
  | int i => exact ⟨false, rfl, k' _ (Ex.refl _)⟩
  | lst h _ => exact ⟨_, false, sql_ty h, rfl, k' _ (Ex.refl _)⟩
  | tup h _ => exact ⟨_, false, sqt_ty h, rfl, k' _ (Ex.refl _)⟩
end
theorem regs_allL {K : PySem.W.Frag} {mg : Str → Option Value} {x0 x1 x2 : Option V} {q : Addr} {x5 : Option V} {ys : List V} {es : List PyData} {H : Hp} {Q : VK} (hq : SqT K H q ys) (ha : DpAll K H ys es) (hl : es.length ≤ 1000) (k : ∀ H', Ex H H' → Q (.bl (es.all regD)) H') :
    tCB (rAll K) (tCons (tLc (iAnyU K (mV 3)) (gName 4) tYes (tAndV (mCall (sp_L_is_whole K mg) E0 (tCons (mV 4) tNil)) (tChain (rCI fun i j => decide (i ≤ j)) (rCI fun i j => decide (i ≤ j)) (tC (.int 0)) (mV 4) (tC (.int 19)))) [4]) tNil)
      [x0, x1, x2, some (.ref q), x5] H Q := by
  have hz : sizeLine = 16777216 := sizeLine_eq
  have hyl := DpAll.len ha
  refine .inr ⟨⟨_, hq⟩, fun D nD => lc_tup (K := K) (a := q) (xs := ys) (fun i H' => H' = upd H D (.lst ((es.take i).map fun d => V.bl (regD d)))) rfl (fun i H' _ e => by rw [e]; exact Evl.ex_t (Evl.Ex.new nD) hq) ?_ ?_⟩
  · rintro i x H' hx rfl
    obtain ⟨d, hd, hxd⟩ := DpAll.get ha hx
    have exD := Evl.Ex.new (o := .lst ((es.take i).map fun d => V.bl (regD d))) nD
    have last : ∀ b : Bool, b = regD d → ∃ acc, (upd H D (.lst ((es.take i).map fun d => V.bl (regD d)))) D = some (.lst acc) ∧ acc.length < sizeLine ∧ upd (upd H D (.lst ((es.take i).map fun d => V.bl (regD d)))) D (.lst (acc ++ [V.bl b])) = upd H D (.lst ((es.take (i + 1)).map fun d => V.bl (regD d))) := by
      intro b hb
      refine ⟨_, upd_same, by rw [List.length_map, List.length_take]; omega, ?_⟩
      rw [upd_upd, take_map hd, hb]
    refine ⟨rfl, x, d, rfl, Dp.mono exD _ hxd, ?_⟩
    refine ⟨wholeD d, rfl, iteB (fun hw => ?_) (fun hw => ?_)⟩
    · cases hxd with
      | int n =>
        refine ⟨_, rfl, iteD (fun h0 => ?_) (fun h0 => ?_)⟩
        · exact last _ (by
            show _ = (decide (0 ≤ n) && decide (n < 20))
            rw [decide_eq_true h0, Bool.true_and]
            show decide (n ≤ 19) = _
            by_cases q : n < 20
            · rw [decide_eq_true q, decide_eq_true (by omega)]
            · rw [decide_eq_false q, decide_eq_false (by omega)])
        · exact last _ (by show _ = (decide (0 ≤ n) && decide (n < 20)); rw [decide_eq_false h0]; rfl)
      | _ => cases hw
    · refine last _ ?_
      cases d with
      | int n => cases hw
      | _ => rfl
  · rintro H' rfl
    rw [hyl, List.take_length]
    refine ⟨D, es.map regD, rfl, .of (by rw [upd_same, List.map_map]; rfl), ?_⟩
    rw [List.all_map]
    exact k _ (Evl.Ex.new nD)
theorem two_of {α : Type} {l : List α} (h : l.length = 2) : ∃ a b, l = [a, b] := by
  match l, h with
  | [a, b], _ => exact ⟨a, b, rfl⟩
theorem three_of {α : Type} {l : List α} (h : l.length = 3) : ∃ a b c, l = [a, b, c] := by
  match l, h with
  | [a, b, c], _ => exact ⟨a, b, c, rfl⟩
theorem dp_two {K : PySem.W.Frag} {H : Hp} {xs : List V} {d1 d2 : PyData} (h : DpAll K H xs [d1, d2]) : ∃ x1 x2, xs = [x1, x2] ∧ Dp K H x1 d1 ∧ Dp K H x2 d2 := by
  cases h with
  | cons h1 h => cases h with
    | cons h2 h => cases h; exact ⟨_, _, rfl, h1, h2⟩
theorem dp_three {K : PySem.W.Frag} {H : Hp} {xs : List V} {d1 d2 d3 : PyData} (h : DpAll K H xs [d1, d2, d3]) : ∃ x1 x2 x3, xs = [x1, x2, x3] ∧ Dp K H x1 d1 ∧ Dp K H x2 d2 ∧ Dp K H x3 d3 := by
  cases h with
  | cons h1 h => cases h with
    | cons h2 h => cases h with
      | cons h3 h => cases h; exact ⟨_, _, _, rfl, h1, h2, h3⟩
theorem isRowD_34 {at_ cnt : Int} {ds : List PyData} (h : ds.length ≠ 3) (h' : ds.length ≠ 4) : isRowD at_ cnt (.tuple ds) = false := by
  match ds, h, h' with
  | [], _, _ => rfl
  | [a], _, _ => cases a <;> rfl
  | [a, b], _, _ => cases a <;> rfl
  | [_, _, _], h, _ => exact absurd rfl h
  | [_, _, _, _], _, h => exact absurd rfl h
  | a :: _ :: _ :: _ :: _ :: _, _, _ => cases a <;> rfl
def sp_L_is_row (K : PySem.W.Frag) (_ : Str → Option Value) : Sp := fun vs H Q _ => ∃ (v : V) (d : PyData) (at_ cnt : Int), vs = [v, .int at_, .int cnt] ∧ Dp K H v d ∧ (∀ a b s, d = .tuple [a, b, .str s] → s.length ≤ 200000) ∧ (∀ ds, d = .tuple ds → ds.length ≤ 1000) ∧ ∀ H', Ex H H' → Q (.bl (isRowD at_ cnt d)) H'

section
variable {P : Program} {w : World} {K : PySem.W.Frag} {mg : Str → Option Value} {base : Heap}
theorem ok_L_is_row (T : Txt K mg w)
    (c_L_is_whole : Cal P w K mg base CX0 1 "_law_is_whole" ["_law_value"] (sp_L_is_whole K mg))
    (c_L_is_tree : Cal P w K mg base CX0 1 "_law_is_tree" ["_law_value"] (sp_L_is_tree K mg)) : Cal P w K mg base CX0 2 "_law_is_row" ["_law_row", "_law_at", "_law_many"] (sp_L_is_row K mg) := by
  refine T.f_L_is_row.ok sc_L_is_row (fun vs H Q E h => (by obtain ⟨_, _, _, _, rfl, _⟩ := h; rfl)) (fun f cdv A outer s H vs Q E hr h => ⟨_, (pss_cons (ps_if (PW.pt (pw_or (pt_not (nVal (pe_callB (cIsi (K := K)) (by rfl) T.n_isinstance PyProof.Rows.boot_isinstance (pa_cons (nv 0) (pa_cons (nTy T.n_tuple PyProof.Rows.boot_tuple) pa_nil))))) (pw_or (nCmp (oNotIn (K := K)) (pe_callB (cLen (K := K)) (by rfl) T.n_len PySem.boot_len (pa_cons (nv 0) pa_nil)) (pe_tup (pa_cons pe_int (pa_cons pe_int pa_nil))) (by rfl)) (pw_or1 (pt_not (nVal (pe_callB (cIsi (K := K)) (by rfl) T.n_isinstance PyProof.Rows.boot_isinstance (pa_cons (pe_ix (ixU (K := K)) (nv 0) pe_int (fun _ _ => rfl)) (pa_cons (nTy T.n_str PyProof.Rows.boot_str) pa_nil))))))))) (pss_one (ps_ret pe_bl)) pss_nil)
      (pss_cons (ps_if (PW.pt (pw_or (nCmp (oNotIn (K := K)) (pe_ix (ixU (K := K)) (nv 0) pe_int (fun _ _ => rfl)) (pe_tup (pa_cons pe_str (pa_cons pe_str (pa_cons pe_str (pa_cons pe_str (pa_cons pe_str (pa_cons pe_str pa_nil))))))) (by rfl)) (pw_or1 (nCmp (oNe (K := K) hr.units) (pe_cmpR (oEq (K := K) hr.units) (pe_ix (ixU (K := K)) (nv 0) pe_int (fun _ _ => rfl)) pe_str (nomark _)) (pe_cmpR (oEq (K := K) hr.units) (pe_callB (cLen (K := K)) (by rfl) T.n_len PySem.boot_len (pa_cons (nv 0) pa_nil)) pe_int (nomark _)) (nomark _))))) (pss_one (ps_ret pe_bl)) pss_nil)
      (pss_cons (ps_set (i := 3) sc_L_is_row.nd rfl (.inl rfl) (pe_slice (slU (K := K)) (nv 0) (po_some pe_int) po_none))
      (pss_cons (ps_if (nCmp (oEq (K := K) hr.units) (pe_ix (ixU (K := K)) (nv 0) pe_int (fun _ _ => rfl)) pe_str (nomark _)) (pss_cons (ps_if (pt_not (nVal (nCall c_L_is_tree (hr.mono (by decide)) pass0 (pa_cons (pe_ix (ixU (K := K)) (nv 0) pe_int (fun _ _ => rfl)) pa_nil)))) (pss_one (ps_ret pe_bl)) pss_nil)
      (pss_one (ps_set (i := 3) sc_L_is_row.nd rfl (.inl rfl) (pe_slice (slU (K := K)) (nv 0) (po_some pe_int) (po_some pe_int))))) pss_nil)
      (pss_cons (ps_if (nCmp (oEq (K := K) hr.units) (pe_ix (ixU (K := K)) (nv 0) pe_int (fun _ _ => rfl)) pe_str (nomark _)) (pss_cons (ps_if (PW.pt (pw_or (pt_not (nVal (nCall c_L_is_whole (hr.mono (by decide)) pass0 (pa_cons (pe_ix (ixU (K := K)) (nv 0) pe_int (fun _ _ => rfl)) pa_nil)))) (pw_or1 (pt_not (pt_chain oLe oLe pe_int (pe_op (oAdd (K := K)) (nv 1) (pe_ix (ixU (K := K)) (nv 0) pe_int (fun _ _ => rfl))) (nv 2)))))) (pss_one (ps_ret pe_bl)) pss_nil)
      (pss_one (ps_set (i := 3) sc_L_is_row.nd rfl (.inl rfl) (pe_slice (slU (K := K)) (nv 0) (po_some pe_int) (po_some pe_int))))) pss_nil)
      (pss_one (ps_ret (pe_callB (cr_all rfl) (by rfl) T.n_all PyProof.Rows.boot_all (pa_cons (pe_lc (own := [("_law_number", 4)]) (g := gName 4) (tt := tYes) rfl sc_L_is_row.nd (piAny (K := K) (nv 3)) (blkOk_by (own := [("_law_number", 4)]) (N := ["_law_row", "_law_at", "_law_many", "_law_numbers", "_law_number"]) (sc := defScope s_L_is_row) (by decide +kernel)) (fun _ _ _ _ _ => (pg_name (i := 4) sc_L_is_row.nd rfl (.inl rfl))) (fun _ _ _ _ _ => pts_nil) (fun _ _ _ _ _ => (pe_and (nCall c_L_is_whole (hr.mono (by decide)) pass0 (pa_cons (nv 4) pa_nil)) (pe_one (pe_chain oLe oLe pe_int (nv 4) pe_int))))) pa_nil))))))))), ?_⟩)
  obtain ⟨v, d, at_, cnt, rfl, hd, hs, hn, k⟩ := h
  have hz : sizeLine = 16777216 := sizeLine_eq
  cases hd with
  | non => exact ⟨false, rfl, k _ (Ex.refl _)⟩
  | bl b => exact ⟨false, rfl, k _ (Ex.refl _)⟩
  | int i => exact ⟨false, rfl, k _ (Ex.refl _)⟩
  | str s => exact ⟨false, rfl, k _ (Ex.refl _)⟩
  | lst h _ => exact ⟨_, false, sql_ty h, rfl, k _ (Ex.refl _)⟩
  | @tup a xs ds hx ha =>
    have xl := DpAll.len ha
    refine ⟨_, true, sqt_ty hx, rfl, _, .inr hx, by show 2 ≤ sizeLine; decide, fun t nt => ⟨_, .t upd_same, rfl, rfl, ?_⟩⟩
    have e1 := Evl.Ex.new (o := .tup [.int 3, .int 4]) nt
    have hx1 := Evl.ex_t e1 hx
    generalize upd H t (.tup [.int 3, .int 4]) = H1 at e1 hx1 ⊢
    have ein : inV (.int ((xs.length : Nat) : Int)) [.int 3, .int 4] = (decide (xs.length = 3) || decide (xs.length = 4)) := by
      show (((3 : Int) == ((xs.length : Nat) : Int)) || (((4 : Int) == ((xs.length : Nat) : Int)) || false)) = _
      have h3 : ((3 : Int) == ((xs.length : Nat) : Int)) = decide (xs.length = 3) := by
        by_cases q : xs.length = 3
        · rw [q]; rfl
        · rw [decide_eq_false q]; exact beq_eq_false_iff_ne.mpr (by omega)
      have h4 : ((4 : Int) == ((xs.length : Nat) : Int)) = decide (xs.length = 4) := by
        by_cases q : xs.length = 4
        · rw [q]; rfl
        · rw [decide_eq_false q]; exact beq_eq_false_iff_ne.mpr (by omega)
      rw [h3, h4, Bool.or_false]
    refine iteB (fun hb => ?_) (fun hb => ?_)
    · have hb' : (!inV (.int ((xs.length : Nat) : Int)) [.int 3, .int 4]) = true := hb
      rw [ein] at hb'
      have := k H1 e1
      rw [isRowD_34 (by intro q; rw [xl, q] at hb'; cases hb') (by intro q; rw [xl, q] at hb'; cases hb')] at this
      exact this
    have hb' : (!inV (.int ((xs.length : Nat) : Int)) [.int 3, .int 4]) = false := hb
    rw [ein] at hb'
    have h34 : ds.length = 3 ∨ ds.length = 4 := by
      rw [xl] at hb'
      by_cases q3 : ds.length = 3
      · exact .inl q3
      · by_cases q4 : ds.length = 4
        · exact .inr q4
        · rw [decide_eq_false q3, decide_eq_false q4] at hb'; cases hb'
    clear hb hb' ein
    cases ha with
    | nil => rcases h34 with h | h <;> cases h
    | @cons x0 xr d0 dr h0 hr =>
      refine ⟨_, _, .inr hx1, atI_nat (j := 0) rfl, ?_⟩
      have no : (∀ w, d0 ≠ .str w) → ∀ H', Ex H H' → Q (.bl false) H' := fun q H' e => by
        have := k H' e
        rw [isRowD_no q] at this
        exact this
      cases h0 with
      | non => exact ⟨false, rfl, no (fun _ q => by cases q) _ e1⟩
      | bl b => exact ⟨false, rfl, no (fun _ q => by cases q) _ e1⟩
      | int i => exact ⟨false, rfl, no (fun _ q => by cases q) _ e1⟩
      | lst h _ => exact ⟨_, false, tyx_ex e1 (sql_ty h), rfl, no (fun _ q => by cases q) _ e1⟩
      | tup h _ => exact ⟨_, false, tyx_ex e1 (sqt_ty h), rfl, no (fun _ q => by cases q) _ e1⟩
      | str w =>
        refine ⟨true, rfl, _, _, .inr hx1, atI_nat (j := 0) rfl, by show 6 ≤ sizeLine; decide, fun t2 nt2 => ⟨six.map V.str, .t upd_same, rfl, by decide +kernel, ?_⟩⟩
        rw [inV_strs]
        have e2 := e1.trans (Evl.Ex.new (o := .tup [.str "set", .str "move", .str "cons", .str "head", .str "tail", .str "jump"]) nt2)
        have hx2 := Evl.ex_t e2 hx
        generalize upd H1 t2 (.tup [.str "set", .str "move", .str "cons", .str "head", .str "tail", .str "jump"]) = H2 at e2 hx2 ⊢
        refine iteN (fun hw => ?_) (fun hw => ?_)
        · have := k H2 e2
          rw [isRowD_word hw] at this
          exact this
        have hcases : w = "set" ∨ w = "move" ∨ w = "cons" ∨ w = "head" ∨ w = "tail" ∨ w = "jump" := by
          unfold six at hw
          simp only [List.mem_cons, List.not_mem_nil, or_false] at hw
          exact hw
        have out : ∀ {n : Nat}, dr.length ≠ n → n = (if w = "cons" then 3 else 2) → ∀ H', Ex H H' → Q (.bl false) H' := fun h1 h2 H' e => by
          have := k H' e
          rw [isRowD_len (by rw [← h2]; exact h1)] at this
          exact this
        rw [List.length_cons] at h34
        rcases h34 with hl | hl
        · obtain ⟨d1, d2, rfl⟩ := two_of (Nat.succ.inj hl)
          obtain ⟨x1, x2, rfl, h1, h2⟩ := dp_two hr
          rcases hcases with rfl | rfl | rfl | rfl | rfl | rfl
          · refine ⟨_, _, .inr hx2, rfl, _, .inr hx2, ?_⟩
            refine ⟨1, rfl, .inr ⟨a, _, rfl, hx2, fun w => absurd (show (1 : Nat) = 0 from w.1) (by decide), fun _ q nq => ?_⟩⟩
            have e3 := e2.trans (Evl.Ex.new (o := .tup (cutV [.str "set", x1, x2] (some 1) none)) nq)
            have hx3 := Evl.ex_t e3 hx
            refine ⟨_, _, .inr hx3, rfl, ?_⟩
            refine ⟨_, _, .inr hx3, rfl, x2, d2, rfl, Dp.mono e3 _ h2, fun s q => hs (.str "set") d1 s (by rw [q]), fun H4 e4 => ?_⟩
            have e5 := e3.trans e4
            have hx4 := Evl.ex_t e5 hx
            refine iteB (fun ht => ?_) (fun ht => ?_)
            · have := k _ e5
              have ht' : treeD d2 = false := by
                have : (!treeD d2) = true := ht
                cases q : treeD d2 with
                | false => rfl
                | true => rw [q] at this; cases this
              rw [show isRowD at_ cnt (.tuple [.str "set", d1, d2]) = (treeD d2 && regD d1) from rfl, ht'] at this
              exact this
            · have ht' : treeD d2 = true := by
                have : (!treeD d2) = false := ht
                cases q : treeD d2 with
                | true => rfl
                | false => rw [q] at this; cases this
              refine ⟨1, rfl, 2, rfl, .inr ⟨a, _, rfl, hx4, fun w => absurd (show (1 : Nat) = 0 from w.1) (by decide), fun _ q2 nq2 => ?_⟩⟩
              have e6 := e5.trans (Evl.Ex.new (o := .tup (cutV [.str "set", x1, x2] (some 1) (some 2))) nq2)
              refine ⟨_, _, .inr (Evl.ex_t e6 hx), rfl, ?_⟩
              refine regs_allL (q := q2) (ys := [x1]) (es := [d1]) (.of upd_same) (.cons (Dp.mono e6 _ h1) .nil) (by show 1 ≤ 1000; decide) (fun H' e => ?_)
              have := k H' (e6.trans e)
              rw [show isRowD at_ cnt (.tuple [.str "set", d1, d2]) = (treeD d2 && regD d1) from rfl, ht'] at this
              rw [show ([d1] : List PyData).all regD = (true && regD d1) by simp]
              exact this
          · refine ⟨_, _, .inr hx2, rfl, _, .inr hx2, ?_⟩
            refine ⟨1, rfl, .inr ⟨a, _, rfl, hx2, fun w => absurd (show (1 : Nat) = 0 from w.1) (by decide), fun _ q nq => ?_⟩⟩
            have e3 := e2.trans (Evl.Ex.new (o := .tup (cutV [.str "move", x1, x2] (some 1) none)) nq)
            have hx3 := Evl.ex_t e3 hx
            refine ⟨_, _, .inr hx3, rfl, ?_⟩
            refine ⟨_, _, .inr hx3, rfl, ?_⟩
            refine regs_allL (q := q) (ys := [x1, x2]) (es := [d1, d2]) (.of upd_same) (.cons (Dp.mono e3 _ h1) (.cons (Dp.mono e3 _ h2) .nil)) (by show 2 ≤ 1000; decide) (fun H' e => ?_)
            have := k H' (e3.trans e)
            rw [show ([d1, d2] : List PyData).all regD = (regD d1 && regD d2) by simp]
            exact this
          · exact ⟨_, _, .inr hx2, rfl, _, .inr hx2, out (n := 3) (by show 2 ≠ 3; decide) (by decide +kernel) _ e2⟩
          · refine ⟨_, _, .inr hx2, rfl, _, .inr hx2, ?_⟩
            refine ⟨1, rfl, .inr ⟨a, _, rfl, hx2, fun w => absurd (show (1 : Nat) = 0 from w.1) (by decide), fun _ q nq => ?_⟩⟩
            have e3 := e2.trans (Evl.Ex.new (o := .tup (cutV [.str "head", x1, x2] (some 1) none)) nq)
            have hx3 := Evl.ex_t e3 hx
            refine ⟨_, _, .inr hx3, rfl, ?_⟩
            refine ⟨_, _, .inr hx3, rfl, ?_⟩
            refine regs_allL (q := q) (ys := [x1, x2]) (es := [d1, d2]) (.of upd_same) (.cons (Dp.mono e3 _ h1) (.cons (Dp.mono e3 _ h2) .nil)) (by show 2 ≤ 1000; decide) (fun H' e => ?_)
            have := k H' (e3.trans e)
            rw [show ([d1, d2] : List PyData).all regD = (regD d1 && regD d2) by simp]
            exact this
          · refine ⟨_, _, .inr hx2, rfl, _, .inr hx2, ?_⟩
            refine ⟨1, rfl, .inr ⟨a, _, rfl, hx2, fun w => absurd (show (1 : Nat) = 0 from w.1) (by decide), fun _ q nq => ?_⟩⟩
            have e3 := e2.trans (Evl.Ex.new (o := .tup (cutV [.str "tail", x1, x2] (some 1) none)) nq)
            have hx3 := Evl.ex_t e3 hx
            refine ⟨_, _, .inr hx3, rfl, ?_⟩
            refine ⟨_, _, .inr hx3, rfl, ?_⟩
            refine regs_allL (q := q) (ys := [x1, x2]) (es := [d1, d2]) (.of upd_same) (.cons (Dp.mono e3 _ h1) (.cons (Dp.mono e3 _ h2) .nil)) (by show 2 ≤ 1000; decide) (fun H' e => ?_)
            have := k H' (e3.trans e)
            rw [show ([d1, d2] : List PyData).all regD = (regD d1 && regD d2) by simp]
            exact this
          · refine ⟨_, _, .inr hx2, rfl, _, .inr hx2, ?_⟩
            refine ⟨1, rfl, .inr ⟨a, _, rfl, hx2, fun w => absurd (show (1 : Nat) = 0 from w.1) (by decide), fun _ q nq => ?_⟩⟩
            have e3 := e2.trans (Evl.Ex.new (o := .tup (cutV [.str "jump", x1, x2] (some 1) none)) nq)
            have hx3 := Evl.ex_t e3 hx
            refine ⟨_, _, .inr hx3, rfl, ?_⟩
            refine ⟨_, _, .inr hx3, rfl, _, _, .inr hx3, rfl, x2, d2, rfl, Dp.mono e3 _ h2, ?_⟩
            have bad : (∀ n : Int, d2 = .int n → ¬ (0 ≤ at_ + n ∧ at_ + n ≤ cnt)) → ∀ H', Ex H H' → Q (.bl false) H' := fun hb H' e => by
              have := k H' e
              have e0 : isRowD at_ cnt (.tuple [.str "jump", d1, d2]) = false := by
                cases d2 with
                | int n =>
                  show ((decide (0 ≤ at_ + n) && decide (at_ + n ≤ cnt)) && regD d1) = false
                  have := hb n rfl
                  by_cases q1 : 0 ≤ at_ + n
                  · rw [decide_eq_true q1, decide_eq_false (fun q2 => this ⟨q1, q2⟩)]; rfl
                  · rw [decide_eq_false q1]; rfl
                | _ => rfl
              rw [e0] at this
              exact this
            refine iteB (fun hw => bad (fun n q => by rw [q] at hw; cases hw) _ e3) (fun hw => ?_)
            cases h2 with
            | int n =>
              refine ⟨_, _, .inr hx3, rfl, ?_⟩
              refine ⟨_, rfl, iteD (fun h0 => ?_) (fun h0 => ?_)⟩
              · refine ⟨_, rfl, iteN (fun h3 => bad (fun m q => by cases q; omega) _ e3) (fun h3 => ?_)⟩
                refine ⟨1, rfl, 2, rfl, .inr ⟨a, _, rfl, hx3, fun w => absurd (show (1 : Nat) = 0 from w.1) (by decide), fun _ q2 nq2 => ?_⟩⟩
                have e6 := e3.trans (Evl.Ex.new (o := .tup (cutV [.str "jump", x1, .int n] (some 1) (some 2))) nq2)
                refine regs_allL (q := q2) (ys := [x1]) (es := [d1]) (.of upd_same) (.cons (Dp.mono e6 _ h1) .nil) (by show 1 ≤ 1000; decide) (fun H' e => ?_)
                have := k H' (e6.trans e)
                rw [show isRowD at_ cnt (.tuple [.str "jump", d1, .int n]) = ((decide (0 ≤ at_ + n) && decide (at_ + n ≤ cnt)) && regD d1) from rfl, decide_eq_true h0, decide_eq_true h3] at this
                rw [show ([d1] : List PyData).all regD = (true && regD d1) by simp]
                exact this
              · exact ⟨_, rfl, bad (fun m q => by cases q; omega) _ e3⟩
            | _ => cases hw
        · obtain ⟨d1, d2, d3, rfl⟩ := three_of (Nat.succ.inj hl)
          obtain ⟨x1, x2, x3, rfl, h1, h2, h3⟩ := dp_three hr
          by_cases hc : w = "cons"
          · subst hc
            refine ⟨_, _, .inr hx2, rfl, _, .inr hx2, ?_⟩
            refine ⟨1, rfl, .inr ⟨a, _, rfl, hx2, fun w => absurd (show (1 : Nat) = 0 from w.1) (by decide), fun _ q nq => ?_⟩⟩
            have e3 := e2.trans (Evl.Ex.new (o := .tup (cutV [.str "cons", x1, x2, x3] (some 1) none)) nq)
            have hx3 := Evl.ex_t e3 hx
            refine ⟨_, _, .inr hx3, rfl, _, _, .inr hx3, rfl, ?_⟩
            refine regs_allL (q := q) (ys := [x1, x2, x3]) (es := [d1, d2, d3]) (.of upd_same) (.cons (Dp.mono e3 _ h1) (.cons (Dp.mono e3 _ h2) (.cons (Dp.mono e3 _ h3) .nil))) (by show 3 ≤ 1000; decide) (fun H' e => ?_)
            have := k H' (e3.trans e)
            rw [show ([d1, d2, d3] : List PyData).all regD = (regD d1 && (regD d2 && regD d3)) by simp]
            exact this
          · refine ⟨_, _, .inr hx2, rfl, _, .inr hx2, ?_⟩
            refine iteN (fun _ => out (n := 2) (by show 3 ≠ 2; decide) (by rw [if_neg hc]) _ e2) (fun q => ?_)
            have q1 : decide (V.str w = V.str "cons") = true := by
              have := V.bl.inj q
              rw [this]
              rfl
            exact absurd (V.str.inj (of_decide_eq_true q1)) hc
end
def askL (d : PyData) : Prop := ∀ ds, d = .list ds → (∀ a b s, PyData.tuple [a, b, .str s] ∈ ds → s.length ≤ 200000) ∧ (∀ es, PyData.tuple es ∈ ds → es.length ≤ 1000)
def dueD : PyData → Bool
  | .list ds => decide (ds.length ≤ 600) && rowsD ds.length 0 ds
  | _ => false
def sp_L_due (K : PySem.W.Frag) (_ : Str → Option Value) : Sp := fun vs H Q _ => ∃ (v : V) (d : PyData), vs = [v] ∧ Dp K H v d ∧ askL d ∧ ∀ H', Ex H H' → Q (.bl (dueD d)) H'

section
variable {P : Program} {w : World} {K : PySem.W.Frag} {mg : Str → Option Value} {base : Heap}
theorem ok_L_due (T : Txt K mg w)
    (c_L_is_row : Cal P w K mg base CX0 2 "_law_is_row" ["_law_row", "_law_at", "_law_many"] (sp_L_is_row K mg)) : Cal P w K mg base CX0 3 "_law_due" ["_law_value"] (sp_L_due K mg) := by
  refine T.f_L_due.ok sc_L_due (fun vs H Q E h => (by obtain ⟨_, _, rfl, _⟩ := h; rfl)) (fun f cdv A outer s H vs Q E hr h => ⟨_, (pss_cons (ps_if (PW.pt (pw_or (pt_not (nVal (pe_callB (cIsi (K := K)) (by rfl) T.n_isinstance PyProof.Rows.boot_isinstance (pa_cons (nv 0) (pa_cons (nTy T.n_list PyProof.Rows.boot_list) pa_nil))))) (pw_or1 (nCmp oGt (pe_callB (cLen (K := K)) (by rfl) T.n_len PySem.boot_len (pa_cons (nv 0) pa_nil)) pe_int (nomark _))))) (pss_one (ps_ret pe_bl)) pss_nil)
      (pss_one (ps_ret (pe_callB (cr_all rfl) (by rfl) T.n_all PyProof.Rows.boot_all (pa_cons (pe_lc (own := [("_law_at", 1)]) (g := gName 1) (tt := tYes) rfl sc_L_due.nd (pi_range1 (by rfl) T.n_range (pa_cons (pe_callB (cLen (K := K)) (by rfl) T.n_len PySem.boot_len (pa_cons (nv 0) pa_nil)) pa_nil)) (blkOk_by (own := [("_law_at", 1)]) (N := ["_law_value", "_law_at"]) (sc := defScope s_L_due) (by decide +kernel)) (fun _ _ _ _ _ => (pg_name (i := 1) sc_L_due.nd rfl (.inl rfl))) (fun _ _ _ _ _ => pts_nil) (fun _ _ _ _ _ => (nCall c_L_is_row (hr.mono (by decide)) pass0 (pa_cons (pe_ix (ixU (K := K)) (nv 0) (nv 1) (fun _ _ => rfl)) (pa_cons (nv 1) (pa_cons (pe_callB (cLen (K := K)) (by rfl) T.n_len PySem.boot_len (pa_cons (nv 0) pa_nil)) pa_nil)))))) pa_nil))))), ?_⟩)
  obtain ⟨v, d, rfl, hd, hask, k⟩ := h
  have hz : sizeLine = 16777216 := sizeLine_eq
  cases hd with
  | non => exact ⟨false, rfl, k _ (Ex.refl _)⟩
  | bl b => exact ⟨false, rfl, k _ (Ex.refl _)⟩
  | int i => exact ⟨false, rfl, k _ (Ex.refl _)⟩
  | str s => exact ⟨false, rfl, k _ (Ex.refl _)⟩
  | tup h _ => exact ⟨_, false, sqt_ty h, rfl, k _ (Ex.refl _)⟩
  | @lst a xs ds hx ha =>
    obtain ⟨as1, as2⟩ := hask ds rfl
    have xl := DpAll.len ha
    have k' : ∀ H', Ex H H' → Q (.bl (decide (ds.length ≤ 600) && rowsD ds.length 0 ds)) H' := k
    refine ⟨_, true, sql_ty hx, rfl, _, .inl hx, ?_⟩
    refine iteD (fun hg => ?_) (fun hg => ?_)
    · have := k' H (Ex.refl H)
      rw [decide_eq_false (by omega), Bool.false_and] at this
      exact this
    have hle : ds.length ≤ 600 := by omega
    rw [decide_eq_true hle] at k'
    refine ⟨_, .inl hx, _, rfl, by omega, by omega, fun D nD => lc_range (lo := 0) (n := xs.length) (fun i H' => Ex H H' ∧ H' D = some (.lst ((flagsD ds.length 0 (ds.take i)).map V.bl))) ⟨Evl.Ex.new nD, upd_same⟩ ?_ ?_⟩
    · rintro i H' hi ⟨ex, hD⟩
      have hi' : i < ds.length := by omega
      have hx1 := Evl.ex_l ex hx
      have hxi : xs[i]? = some xs[i] := List.getElem?_eq_getElem hi
      obtain ⟨d, hd, hxd⟩ := DpAll.get ha hxi
      have ei : (0 : Int) + (i : Int) = ((i : Nat) : Int) := by omega
      refine ⟨rfl, _, _, .inl hx1, by rw [ei]; exact atI_nat hxi, _, .inl hx1, xs[i], d, i, ds.length, by rw [ei, xl], Dp.mono ex _ hxd, fun a b s q => as1 a b s (by rw [← q]; exact mem_of_get hd), fun es q => as2 es (by rw [← q]; exact mem_of_get hd), fun H2 e2 => ?_⟩
      have hD2 := e2 _ _ hD
      refine ⟨_, hD2, by rw [List.length_map, flags_len, List.length_take]; omega, Evl.Ex.mut (ex.trans e2) nD, ?_⟩
      rw [upd_same, List.take_add_one, hd]
      show some (HO.lst (_ ++ [V.bl (isRowD (i : Nat) ds.length d)])) = some (.lst ((flagsD ds.length 0 (ds.take i ++ [d])).map V.bl))
      rw [flags_snoc, List.map_append, List.length_take, Nat.min_eq_left (by omega), Nat.zero_add]
      rfl
    · rintro H1 ⟨ex, hD⟩
      rw [xl, List.take_length] at hD
      refine ⟨D, _, rfl, .of hD, ?_⟩
      rw [flags_all]
      have := k' H1 ex
      rw [Bool.true_and] at this
      exact this
end
theorem row_sm {r : Row} (h : ∀ t, r.tree = some t → t.pairs ≤ 3) : sm 2 r.d = true := by
  have hw : ∀ w : Str, w.length ≤ 20 → (w.cps.all fun c => decide (c < 0x110000)) = true → sm 1 (.str w) = true := fun w h1 h2 => by
    show (decide (w.length ≤ 20) && _) = true
    rw [decide_eq_true h1, h2]; rfl
  cases r with
  | set a t =>
    have ht := h t rfl
    have tl := t.enc_len
    show (true && (sm 1 (.str ("set" : Str)) && (sm 1 (.int a) && (sm 1 (.str (S t.enc)) && true)))) = true
    rw [hw _ (by decide) (by decide +kernel), hw (S t.enc) (by rw [S_len]; omega) (by have := sOk_enc t; rw [← nb_S] at this; exact this)]; rfl
  | move a b => show (true && (sm 1 (.str ("move" : Str)) && true)) = true; rw [hw _ (by decide) (by decide +kernel)]; rfl
  | cons a b c => show (true && (sm 1 (.str ("cons" : Str)) && true)) = true; rw [hw _ (by decide) (by decide +kernel)]; rfl
  | head a b => show (true && (sm 1 (.str ("head" : Str)) && true)) = true; rw [hw _ (by decide) (by decide +kernel)]; rfl
  | tail a b => show (true && (sm 1 (.str ("tail" : Str)) && true)) = true; rw [hw _ (by decide) (by decide +kernel)]; rfl
  | jump a n => show (true && (sm 1 (.str ("jump" : Str)) && true)) = true; rw [hw _ (by decide) (by decide +kernel)]; rfl
theorem rows_sm {rows : List Row} (h : treesLe 3 rows) : ∀ d ∈ rows.map Row.d, sm 2 d = true := fun d hd => by
  obtain ⟨r, hr, rfl⟩ := List.mem_map.mp hd
  exact row_sm (h r hr)
theorem sm_tup {n : Nat} {es : List PyData} (hl : es.length ≤ 100) (h : ∀ d ∈ es, sm n d = true) : sm (n + 1) (.tuple es) = true := by
  show (decide (es.length ≤ 100) && es.all (sm n)) = true
  rw [decide_eq_true hl, List.all_eq_true.mpr h]; rfl
theorem sm_lst {n : Nat} {es : List PyData} (hl : es.length ≤ 100) (h : ∀ d ∈ es, sm n d = true) : sm (n + 1) (.list es) = true := by
  show (decide (es.length ≤ 100) && es.all (sm n)) = true
  rw [decide_eq_true hl, List.all_eq_true.mpr h]; rfl
theorem ds_sm {r : Row} (h : ∀ t, r.tree = some t → t.pairs ≤ 3) : ∀ d ∈ r.ds, sm 1 d = true := fun d hd => by
  have := row_sm h
  have h' : (decide (r.ds.length ≤ 100) && r.ds.all (sm 1)) = true := this
  rw [Bool.and_eq_true, List.all_eq_true] at h'
  exact h'.2 d hd
/-- a small value -/
def SmV (K : PySem.W.Frag) (H : Hp) (n : Nat) (v : V) : Prop := ∃ d, Dp K H v d ∧ sm n d = true
theorem SmV.mono {K : PySem.W.Frag} {H H' : Hp} {n m : Nat} {v : V} (e : Ex H H') (hn : n ≤ m) (h : SmV K H n v) : SmV K H' m v := by
  obtain ⟨d, h1, h2⟩ := h
  exact ⟨d, Dp.mono e _ h1, sm_mono hn h2⟩
theorem row_tupD {K : PySem.W.Frag} {H : Hp} {p : Addr} {r : Row} (h : SqT K H p r.vs) : TupD K H p r.ds := by
  have := row_dp (K := K) (H := H) (v := .ref p) ⟨p, rfl, h⟩
  cases this with
  | tup h1 h2 => exact ⟨_, h1, h2⟩
theorem row_dpAll {K : PySem.W.Frag} {H : Hp} {p : Addr} {r : Row} (h : SqT K H p r.vs) : DpAll K H r.vs r.ds := by
  cases r with
  | set a t => exact .cons (.str _) (.cons (.int _) (.cons (.str _) .nil))
  | move a b => exact .cons (.str _) (.cons (.int _) (.cons (.int _) .nil))
  | cons a b c => exact .cons (.str _) (.cons (.int _) (.cons (.int _) (.cons (.int _) .nil)))
  | head a b => exact .cons (.str _) (.cons (.int _) (.cons (.int _) .nil))
  | tail a b => exact .cons (.str _) (.cons (.int _) (.cons (.int _) .nil))
  | jump a n => exact .cons (.str _) (.cons (.int _) (.cons (.int _) .nil))
theorem ds_len (r : Row) : r.ds.length = r.vs.length := by cases r <;> rfl
def sp_L_changed (K : PySem.W.Frag) (_ : Str → Option Value) : Sp := fun vs H Q _ => ∃ (p P : Addr) (xs : List V) (rows : List Row), vs = [.ref p, .ref P] ∧ StrmAt H p ∧ H P = some (.lst xs) ∧ PrgL K H xs rows ∧ rows.length ≤ 8 ∧ treesLe 3 rows ∧ ∀ v H', Ex H H' → SmV K H' 5 v → Q v H'

section
variable {P : Program} {w : World} {K : PySem.W.Frag} {mg : Str → Option Value} {base : Heap}
theorem ok_L_changed (T : Txt K mg w)
    (c_L_draw : Cal P w K mg base CX0 1 "_law_draw" ["_law_stream_here", "_law_many"] (sp_L_draw K mg)) : Cal P w K mg base CX0 2 "_law_changed" ["_law_stream_here", "_law_program_here"] (sp_L_changed K mg) := by
  refine T.f_L_changed.ok sc_L_changed (fun vs H Q E h => (by obtain ⟨_, _, _, _, rfl, _⟩ := h; rfl)) (fun f cdv A outer s H vs Q E hr h => ⟨_, (pss_cons (ps_if (pt_not (pt_truth (nv 1) (by intro _; rfl))) (pss_one (ps_ret (pe_ix (ixU (K := K)) (pe_lst (pa_cons pe_non (pa_cons (pe_tup pa_nil) (pa_cons pe_str (pa_cons pe_int (pa_cons pe_bl (pa_cons (pe_tup (pa_cons pe_str (pa_cons pe_int (pa_cons pe_str pa_nil)))) (pa_cons (pe_lst (pa_cons (pe_tup pa_nil) pa_nil)) (pa_cons (pe_lst (pa_cons pe_non pa_nil)) pa_nil))))))))) (nCall c_L_draw (hr.mono (by decide)) pass0 (pa_cons (nv 0) (pa_cons pe_int pa_nil))) (fun _ _ => rfl)))) pss_nil)
      (pss_cons (ps_set (i := 2) sc_L_changed.nd rfl (.inl rfl) (nCall c_L_draw (hr.mono (by decide)) pass0 (pa_cons (nv 0) (pa_cons (pe_callB (cLen (K := K)) (by rfl) T.n_len PySem.boot_len (pa_cons (nv 1) pa_nil)) pa_nil))))
      (pss_cons (ps_set (i := 3) sc_L_changed.nd rfl (.inl rfl) (pe_ix (ixU (K := K)) (nv 1) (nv 2) (fun _ _ => rfl)))
      (pss_cons (ps_set (i := 4) sc_L_changed.nd rfl (.inl rfl) (nCall c_L_draw (hr.mono (by decide)) pass0 (pa_cons (nv 0) (pa_cons pe_int pa_nil))))
      (pss_cons (ps_set (i := 5) sc_L_changed.nd rfl (.inl rfl) (nCall c_L_draw (hr.mono (by decide)) pass0 (pa_cons (nv 0) (pa_cons (pe_callB (cLen (K := K)) (by rfl) T.n_len PySem.boot_len (pa_cons (nv 3) pa_nil)) pa_nil))))
      (pss_cons (ps_set (i := 6) sc_L_changed.nd rfl (.inl rfl) (pe_lst (pa_cons pe_bl (pa_cons (pe_un un_neg pe_int) (pa_cons pe_int (pa_cons pe_int (pa_cons pe_str (pa_cons pe_str (pa_cons pe_str (pa_cons pe_non (pa_cons (pe_tup pa_nil) (pa_cons (pe_op oSub (pe_callB (cLen (K := K)) (by rfl) T.n_len PySem.boot_len (pa_cons (nv 1) pa_nil)) (nv 2)) (pa_cons (pe_op (oAdd (K := K)) (pe_op oSub (pe_callB (cLen (K := K)) (by rfl) T.n_len PySem.boot_len (pa_cons (nv 1) pa_nil)) (nv 2)) pe_int) (pa_cons (pe_un un_neg (nv 2)) (pa_cons (pe_op oSub (pe_un un_neg (nv 2)) pe_int) (pa_cons pe_str (pa_cons pe_str pa_nil)))))))))))))))))
      (Evl.pss_cut (ps_if (nCmp oLt (nv 4) pe_int (nomark _)) (pss_one (ps_set (i := 3) sc_L_changed.nd rfl (.inl rfl) (pe_op (oAdd (K := K)) (pe_op (oAdd (K := K)) (pe_slice (slU (K := K)) (nv 3) po_none (po_some (nv 5))) (pe_tup (pa_cons (pe_ix (ixU (K := K)) (nv 6) (nCall c_L_draw (hr.mono (by decide)) pass0 (pa_cons (nv 0) (pa_cons (pe_callB (cLen (K := K)) (by rfl) T.n_len PySem.boot_len (pa_cons (nv 6) pa_nil)) pa_nil))) (fun _ _ => rfl)) pa_nil))) (pe_slice (slU (K := K)) (nv 3) (po_some (pe_op (oAdd (K := K)) (nv 5) pe_int)) po_none)))) (pss_one (ps_if (nCmp (oEq (K := K) hr.units) (nv 4) pe_int (nomark _)) (pss_one (ps_set (i := 3) sc_L_changed.nd rfl (.inl rfl) (pe_ix (ixU (K := K)) (pe_lst (pa_cons (pe_op (oAdd (K := K)) (nv 3) (pe_tup (pa_cons pe_int pa_nil))) (pa_cons (pe_slice (slU (K := K)) (nv 3) po_none (po_some pe_int)) (pa_cons (pe_callTy (cList (K := K)) (by rfl) T.n_list PyProof.Rows.boot_list (pa_cons (nv 3) pa_nil)) (pa_cons (pe_tup pa_nil) (pa_cons pe_non (pa_cons (pe_ix (ixU (K := K)) (nv 3) pe_int (fun _ _ => rfl)) pa_nil))))))) (nCall c_L_draw (hr.mono (by decide)) pass0 (pa_cons (nv 0) (pa_cons pe_int pa_nil))) (fun _ _ => rfl)))) (pss_one (ps_if (nCmp (oEq (K := K) hr.units) (nv 4) pe_int (nomark _)) (pss_one (ps_set (i := 3) sc_L_changed.nd rfl (.inl rfl) (pe_op (oAdd (K := K)) (pe_tup (pa_cons (pe_ix (ixU (K := K)) (pe_lst (pa_cons pe_str (pa_cons pe_str (pa_cons pe_str (pa_cons pe_str (pa_cons pe_int pa_nil)))))) (nCall c_L_draw (hr.mono (by decide)) pass0 (pa_cons (nv 0) (pa_cons pe_int pa_nil))) (fun _ _ => rfl)) pa_nil)) (pe_slice (slU (K := K)) (nv 3) (po_some pe_int) po_none)))) (pss_one (ps_if (nCmp (oEq (K := K) hr.units) (nv 4) pe_int (nomark _)) (pss_one (ps_ret (pe_ix (ixU (K := K)) (pe_lst (pa_cons (pe_callTy (cTup (K := K)) (by rfl) T.n_tuple PyProof.Rows.boot_tuple (pa_cons (nv 1) pa_nil)) (pa_cons (pe_ix (ixU (K := K)) (nv 1) (nv 2) (fun _ _ => rfl)) (pa_cons (pe_lst (pa_cons (nv 1) pa_nil)) pa_nil)))) (nCall c_L_draw (hr.mono (by decide)) pass0 (pa_cons (nv 0) (pa_cons pe_int pa_nil))) (fun _ _ => rfl)))) pss_nil)))))))
      (pss_one (ps_ret (pe_op (oAdd (K := K)) (pe_op (oAdd (K := K)) (pe_slice (slU (K := K)) (nv 1) po_none (po_some (nv 2))) (pe_lst (pa_cons (nv 3) pa_nil))) (pe_slice (slU (K := K)) (nv 1) (po_some (pe_op (oAdd (K := K)) (nv 2) pe_int)) po_none))))))))))), ?_⟩)
  obtain ⟨p, P, xs, rows, rfl, st, hP, hL, hl, htr, k⟩ := h
  have hz : sizeLine = 16777216 := sizeLine_eq
  have hxl := hL.length
  refine ⟨_, .inl ⟨xs, .of hP, rfl⟩, iteB (fun hb => ?_) (fun hb => ?_)⟩
  · refine ⟨by show 0 ≤ sizeLine; decide, fun a1 n1 => ⟨by show 3 ≤ sizeLine; decide, fun a2 n2 => ⟨by show 0 ≤ sizeLine; decide, fun a3 n3 => ⟨by show 1 ≤ sizeLine; decide, fun a4 n4 => ⟨by show 1 ≤ sizeLine; decide, fun a5 n5 => ⟨by show 8 ≤ sizeLine; decide, fun a6 n6 => ?_⟩⟩⟩⟩⟩⟩
    have x1 := Evl.Ex.new (o := .tup []) n1
    have x2 := Evl.Ex.new (o := .tup [.str ("set" : Str), .int 0, .str ("0" : Str)]) n2
    have x3 := Evl.Ex.new (o := .tup []) n3
    have x4 := Evl.Ex.new (o := .lst [.ref a3]) n4
    have x5 := Evl.Ex.new (o := .lst [.non]) n5
    have x6 := Evl.Ex.new (o := .lst [.non, .ref a1, .str ("" : Str), .int 0, .bl true, .ref a2, .ref a4, .ref a5]) n6
    have g6 := upd_same (H := upd (upd (upd (upd (upd H a1 (.tup [])) a2 (.tup [.str ("set" : Str), .int 0, .str ("0" : Str)])) a3 (.tup [])) a4 (.lst [.ref a3])) a5 (.lst [.non])) (a := a6) (o := .lst [.non, .ref a1, .str ("" : Str), .int 0, .bl true, .ref a2, .ref a4, .ref a5])
    have g1 := (x2.trans (x3.trans (x4.trans (x5.trans x6)))) _ _ upd_same
    have g2 := (x3.trans (x4.trans (x5.trans x6))) _ _ upd_same
    have g3 := (x4.trans (x5.trans x6)) _ _ upd_same
    have g4 := (x5.trans x6) _ _ upd_same
    have g5 := x6 _ _ upd_same
    have ex := x1.trans (x2.trans (x3.trans (x4.trans (x5.trans x6))))
    generalize upd (upd (upd (upd (upd (upd H a1 (.tup [])) a2 (.tup [.str ("set" : Str), .int 0, .str ("0" : Str)])) a3 (.tup [])) a4 (.lst [.ref a3])) a5 (.lst [.non])) a6 (.lst [.non, .ref a1, .str ("" : Str), .int 0, .bl true, .ref a2, .ref a4, .ref a5]) = H1 at g1 g2 g3 g4 g5 g6 ex ⊢
    refine ⟨p, _, rfl, by decide, by decide, st.mono ex, fun v hv0 hv1 _ => ?_⟩
    refine mem_ix (P := SmV K H1 5) (.l g6) hv0 hv1 (fun v hv => ?_) (fun v hv => k v H1 ex hv)
    simp only [List.mem_cons, List.not_mem_nil, or_false] at hv
    rcases hv with rfl | rfl | rfl | rfl | rfl | rfl | rfl | rfl
    · exact ⟨_, .non, rfl⟩
    · exact ⟨_, .tup (.of g1) .nil, rfl⟩
    · exact ⟨_, .str _, by decide +kernel⟩
    · exact ⟨_, .int _, rfl⟩
    · exact ⟨_, .bl _, rfl⟩
    · exact ⟨_, .tup (.of g2) (.cons (.str _) (.cons (.int _) (.cons (.str _) .nil))), by decide +kernel⟩
    · exact ⟨_, .lst (.of g4) (.cons (.tup (.of g3) .nil) .nil), by decide +kernel⟩
    · exact ⟨_, .lst (.of g5) (.cons .non .nil), by decide +kernel⟩
  have hne : 0 < xs.length := by
    have : (!(!xs.isEmpty)) = false := hb
    cases xs with
    | nil => cases this
    | cons _ _ => exact Nat.succ_pos _
  have hn8 : xs.length ≤ 8 := by omega
  refine ⟨_, .l hP, p, _, rfl, Int.ofNat_lt.mpr hne, Int.lt_of_le_of_lt (Int.ofNat_le.mpr hn8) (by decide), st, fun at_ ha0 ha1 _ => ?_⟩
  obtain ⟨hi, ea⟩ := atI_at ha0 ha1
  obtain ⟨r, hr, q, eq, hq⟩ := paired_get hL (List.getElem?_eq_getElem hi)
  refine ⟨xs, .ref q, .l hP, by rw [ea, eq], ?_⟩
  refine ⟨p, _, rfl, by decide, by decide, st, fun pick hp0 hp1 _ => ?_⟩
  have hrl : 0 < r.vs.length := Nat.succ_pos _
  have hrl2 : r.vs.length ≤ 4 := by cases r <;> (simp [Row.vs, Row.parts])
  refine ⟨_, .inr hq, p, _, rfl, Int.ofNat_lt.mpr hrl, Int.lt_of_le_of_lt (Int.ofNat_le.mpr hrl2) (by decide), st, fun spot hs0 hs1 _ => ?_⟩
  refine ⟨_, rfl, by show 0 ≤ sizeLine; decide, fun a1 n1 => ?_⟩
  have x1 := Evl.Ex.new (o := .tup []) n1
  have hP1 := x1 _ _ hP
  refine ⟨_, .l hP1, _, .l hP1, _, rfl, _, rfl, by show 15 ≤ sizeLine; decide, fun a2 n2 => ?_⟩
  have hP2 := (Evl.Ex.new (o := .lst [.bl true, .int (-1), .int 20, .int 19, .str ("0" : Str), .str ("1" : Str), .str ("100" : Str), .non, .ref a1, .int ((xs.length : Int) - at_), .int ((xs.length : Int) - at_ + 1), .int (-at_), .int (-at_ - 1), .str ("jump" : Str), .str ("set" : Str)]) n2) _ _ hP1
  have x2 := Evl.Ex.new (o := .lst [.bl true, .int (-1), .int 20, .int 19, .str ("0" : Str), .str ("1" : Str), .str ("100" : Str), .non, .ref a1, .int ((xs.length : Int) - at_), .int ((xs.length : Int) - at_ + 1), .int (-at_), .int (-at_ - 1), .str ("jump" : Str), .str ("set" : Str)]) n2
  have gt := x2 _ _ upd_same
  have gv := upd_same (H := upd H a1 (.tup [])) (a := a2) (o := .lst [.bl true, .int (-1), .int 20, .int 19, .str ("0" : Str), .str ("1" : Str), .str ("100" : Str), .non, .ref a1, .int ((xs.length : Int) - at_), .int ((xs.length : Int) - at_ + 1), .int (-at_), .int (-at_ - 1), .str ("jump" : Str), .str ("set" : Str)])
  have ex := x1.trans x2
  have hall : ∀ v ∈ [V.bl true, .int (-1), .int 20, .int 19, .str ("0" : Str), .str ("1" : Str), .str ("100" : Str), .non, .ref a1, .int ((xs.length : Int) - at_), .int ((xs.length : Int) - at_ + 1), .int (-at_), .int (-at_ - 1), .str ("jump" : Str), .str ("set" : Str)], SmV K (upd (upd H a1 (.tup [])) a2 (.lst [.bl true, .int (-1), .int 20, .int 19, .str ("0" : Str), .str ("1" : Str), .str ("100" : Str), .non, .ref a1, .int ((xs.length : Int) - at_), .int ((xs.length : Int) - at_ + 1), .int (-at_), .int (-at_ - 1), .str ("jump" : Str), .str ("set" : Str)])) 1 v := fun v hv => by
    simp only [List.mem_cons, List.not_mem_nil, or_false] at hv
    rcases hv with rfl | rfl | rfl | rfl | rfl | rfl | rfl | rfl | rfl | rfl | rfl | rfl | rfl | rfl | rfl
    · exact ⟨_, .bl _, rfl⟩
    · exact ⟨_, .int _, rfl⟩
    · exact ⟨_, .int _, rfl⟩
    · exact ⟨_, .int _, rfl⟩
    · exact ⟨_, .str _, by decide +kernel⟩
    · exact ⟨_, .str _, by decide +kernel⟩
    · exact ⟨_, .str _, by decide +kernel⟩
    · exact ⟨_, .non, rfl⟩
    · exact ⟨_, .tup (.of gt) .nil, rfl⟩
    · exact ⟨_, .int _, rfl⟩
    · exact ⟨_, .int _, rfl⟩
    · exact ⟨_, .int _, rfl⟩
    · exact ⟨_, .int _, rfl⟩
    · exact ⟨_, .str _, by decide +kernel⟩
    · exact ⟨_, .str _, by decide +kernel⟩
  have hvl : ([V.bl true, .int (-1), .int 20, .int 19, .str ("0" : Str), .str ("1" : Str), .str ("100" : Str), .non, .ref a1, .int ((xs.length : Int) - at_), .int ((xs.length : Int) - at_ + 1), .int (-at_), .int (-at_ - 1), .str ("jump" : Str), .str ("set" : Str)]).length = 15 := rfl
  generalize [V.bl true, .int (-1), .int 20, .int 19, .str ("0" : Str), .str ("1" : Str), .str ("100" : Str), .non, .ref a1, .int ((xs.length : Int) - at_), .int ((xs.length : Int) - at_ + 1), .int (-at_), .int (-at_ - 1), .str ("jump" : Str), .str ("set" : Str)] = vals at hP2 x2 gt gv ex hall hvl ⊢
  generalize upd (upd H a1 (.tup [])) a2 (.lst vals) = H1 at hP2 gt gv ex hall ⊢
  have hD : TupD K H1 q r.ds := (row_tupD hq).mono ex
  have hdl : r.ds.length ≤ 4 := by rw [ds_len]; exact hrl2
  have hds := ds_sm (htr r (mem_of_get hr))
  have hPL := PrgL.mono ex hL
  refine ⟨fun σ' H' => Ex H1 H' ∧ ∃ v, SmV K H' 2 v ∧ σ' = [some (.ref p), some (.ref P), some (.int at_), some v, some (.int pick), some (.int spot), some (.ref a2)], ?_, ?_⟩
  · refine iteD (fun _ => ?_) (fun _ => iteI (fun _ => ?_) (fun _ => iteI (fun _ => ?_) (fun _ => iteI (fun _ => ?_) (fun _ => ?_))))
    · -- one part of the row
      refine ⟨_, rfl, cut_tup hD (fun q1 H2 e2 hc1 => ?_)⟩
      refine ⟨_, .l (e2 _ _ gv), p, _, rfl, by rw [hvl]; decide, by rw [hvl]; decide, (st.mono ex).mono e2, fun i hi0 hi1 _ => ?_⟩
      refine mem_ix (P := SmV K H2 1) (.l (e2 _ _ gv)) hi0 hi1 (fun v hv => (hall v hv).mono e2 (Nat.le_refl _)) (fun v hv => ?_)
      refine ⟨by show 1 ≤ sizeLine; decide, fun a3 n3 => ?_⟩
      have x3 := Evl.Ex.new (o := .tup [v]) n3
      obtain ⟨dv, hv1, hv2⟩ := hv
      have hT : TupD K (upd H2 a3 (.tup [v])) a3 [dv] := ⟨_, .of upd_same, .cons (Dp.mono x3 _ hv1) .nil⟩
      have l1 := cutD_len r.ds none (some spot)
      refine cat_tup (hc1.mono x3) hT (by simp only [List.length_cons, List.length_nil]; omega) (fun q2 H3 e3 hc2 => ?_)
      refine ⟨_, rfl, cut_tup (((hD.mono e2).mono x3).mono e3) (fun q3 H4 e4 hc3 => ?_)⟩
      have l2 := cutD_len r.ds (some (spot + 1)) none
      refine cat_tup (hc2.mono e4) hc3 (by simp only [List.length_append, List.length_cons, List.length_nil]; omega) (fun q4 H5 e5 hc4 => ?_)
      refine ⟨e2.trans (x3.trans (e3.trans (e4.trans e5))), _, ⟨_, hc4.dp, sm_tup ?_ ?_⟩, rfl⟩
      · simp only [List.length_append, List.length_cons, List.length_nil]; omega
      · intro d hd
        simp only [List.mem_append, List.mem_cons, List.not_mem_nil, or_false] at hd
        rcases hd with (hd | rfl) | hd
        · exact hds d (cutD_mem d hd)
        · exact hv2
        · exact hds d (cutD_mem d hd)
    · -- another value for the row
      refine ⟨by show 1 ≤ sizeLine; decide, fun a3 n3 => ?_⟩
      have x3 := Evl.Ex.new (o := .tup [.int 0]) n3
      have hT : TupD K (upd H1 a3 (.tup [.int 0])) a3 [.int 0] := ⟨_, .of upd_same, .cons (.int _) .nil⟩
      refine cat_tup (hD.mono x3) hT (by simp only [List.length_cons, List.length_nil]; omega) (fun q2 H3 e3 hc2 => ?_)
      have hD3 := (hD.mono x3).mono e3
      refine ⟨_, rfl, cut_tup hD3 (fun q3 H4 e4 hc3 => ?_)⟩
      have hq4 : SqT K H4 q r.vs := Evl.ex_t (ex.trans (x3.trans (e3.trans e4))) hq
      refine ⟨_, .inr hq4, fun a5 n5 => ?_⟩
      refine ⟨by show 0 ≤ sizeLine; decide, fun a6 n6 => ?_⟩
      have x5 := Evl.Ex.new (o := .lst r.vs) n5
      have x6 := Evl.Ex.new (o := .tup []) n6
      have hq6 : SqT K (upd (upd H4 a5 (.lst r.vs)) a6 (.tup [])) q r.vs := Evl.ex_t (x5.trans x6) hq4
      have hrv : atI r.vs 0 = some (.str r.word) := atI_nat (xs := r.vs) (j := 0) rfl
      refine ⟨_, _, .inr hq6, hrv, by show 6 ≤ sizeLine; decide, fun a7 n7 => ?_⟩
      have x7 := Evl.Ex.new (o := .lst [.ref q2, .ref q3, .ref a5, .ref a6, .non, .str r.word]) n7
      have e5 := x5.trans (x6.trans x7)
      have g5 := (x6.trans x7) _ _ upd_same
      have g6 := x7 _ _ upd_same
      have g7 := upd_same (H := upd (upd H4 a5 (.lst r.vs)) a6 (.tup [])) (a := a7) (o := .lst [.ref q2, .ref q3, .ref a5, .ref a6, .non, .str r.word])
      generalize upd (upd (upd H4 a5 (.lst r.vs)) a6 (.tup [])) a7 (.lst [.ref q2, .ref q3, .ref a5, .ref a6, .non, .str r.word]) = H7 at e5 g5 g6 g7 ⊢
      have e7 := x3.trans (e3.trans (e4.trans e5))
      refine ⟨p, _, rfl, by decide, by decide, (st.mono ex).mono e7, fun i hi0 hi1 _ => ?_⟩
      have hD7 := hD.mono e7
      refine mem_ix (P := SmV K H7 2) (.l g7) hi0 hi1 (fun v hv => ?_) (fun v hv => ⟨e7, v, hv, rfl⟩)
      simp only [List.mem_cons, List.not_mem_nil, or_false] at hv
      rcases hv with rfl | rfl | rfl | rfl | rfl | rfl
      · refine ⟨_, ((hc2.mono e4).mono e5).dp, sm_tup ?_ ?_⟩
        · simp only [List.length_append, List.length_cons, List.length_nil]; omega
        · intro d hd
          simp only [List.mem_append, List.mem_cons, List.not_mem_nil, or_false] at hd
          rcases hd with hd | rfl
          · exact hds d hd
          · rfl
      · refine ⟨_, (hc3.mono e5).dp, sm_tup (Nat.le_trans (cutD_len _ _ _) (by omega)) fun d hd => hds d (cutD_mem d hd)⟩
      · obtain ⟨ys, hy1, hy2⟩ := hD7
        have hdp : DpAll K H7 r.vs r.ds := row_dpAll (Evl.ex_t (ex.trans e7) hq)
        exact ⟨_, .lst (.of g5) hdp, sm_lst (by omega) hds⟩
      · exact ⟨_, .tup (.of g6) .nil, rfl⟩
      · exact ⟨_, .non, rfl⟩
      · exact ⟨_, .str _, sm_mono (n := 1) (by decide) (hds (.str r.word) (by cases r <;> exact List.mem_cons_self))⟩
    · -- another word
      refine ⟨by show 5 ≤ sizeLine; decide, fun a3 n3 => ?_⟩
      have x3 := Evl.Ex.new (o := .lst [.str ("Set" : Str), .str ("con" : Str), .str ("" : Str), .str ("jum" : Str), .int 3]) n3
      have g3 := upd_same (H := H1) (a := a3) (o := .lst [.str ("Set" : Str), .str ("con" : Str), .str ("" : Str), .str ("jum" : Str), .int 3])
      generalize upd H1 a3 (.lst [.str ("Set" : Str), .str ("con" : Str), .str ("" : Str), .str ("jum" : Str), .int 3]) = H3 at x3 g3 ⊢
      refine ⟨p, _, rfl, by decide, by decide, (st.mono ex).mono x3, fun i hi0 hi1 _ => ?_⟩
      refine mem_ix (P := SmV K H3 1) (.l g3) hi0 hi1 (fun v hv => ?_) (fun v hv => ?_)
      · simp only [List.mem_cons, List.not_mem_nil, or_false] at hv
        rcases hv with rfl | rfl | rfl | rfl | rfl
        · exact ⟨_, .str _, by decide +kernel⟩
        · exact ⟨_, .str _, by decide +kernel⟩
        · exact ⟨_, .str _, by decide +kernel⟩
        · exact ⟨_, .str _, by decide +kernel⟩
        · exact ⟨_, .int _, rfl⟩
      · refine ⟨by show 1 ≤ sizeLine; decide, fun a4 n4 => ?_⟩
        have x4 := Evl.Ex.new (o := .tup [v]) n4
        obtain ⟨dv, hv1, hv2⟩ := hv
        have hT : TupD K (upd H3 a4 (.tup [v])) a4 [dv] := ⟨_, .of upd_same, .cons (Dp.mono x4 _ hv1) .nil⟩
        refine ⟨_, rfl, cut_tup ((hD.mono x3).mono x4) (fun q3 H4 e4 hc3 => ?_)⟩
        have l2 := cutD_len r.ds (some 1) none
        refine cat_tup (hT.mono e4) hc3 (by simp only [List.length_cons, List.length_nil]; omega) (fun q4 H5 e5 hc4 => ?_)
        refine ⟨x3.trans (x4.trans (e4.trans e5)), _, ⟨_, hc4.dp, sm_tup ?_ ?_⟩, rfl⟩
        · simp only [List.length_append, List.length_cons, List.length_nil]; omega
        · intro d hd
          simp only [List.mem_append, List.mem_cons, List.not_mem_nil, or_false] at hd
          rcases hd with rfl | hd
          · exact hv2
          · exact hds d (cutD_mem d hd)
    · -- another value for the program
      have hPd : DpAll K H1 xs (rows.map Row.d) := prg_dpAll hPL
      refine ⟨_, .of hP2, fun a3 n3 => ?_⟩
      have x3 := Evl.Ex.new (o := .tup xs) n3
      refine ⟨xs, .ref q, .l (x3 _ _ hP2), by rw [ea, eq], ?_⟩
      refine ⟨by show 1 ≤ sizeLine; decide, fun a4 n4 => ?_⟩
      have x4 := Evl.Ex.new (o := .lst [.ref P]) n4
      refine ⟨by show 3 ≤ sizeLine; decide, fun a5 n5 => ?_⟩
      have x5 := Evl.Ex.new (o := .lst [.ref a3, .ref q, .ref a4]) n5
      have g3 := (x4.trans x5) _ _ upd_same
      have g4 := x5 _ _ upd_same
      have g5 := upd_same (H := upd (upd H1 a3 (.tup xs)) a4 (.lst [.ref P])) (a := a5) (o := .lst [.ref a3, .ref q, .ref a4])
      have e5 := x3.trans (x4.trans x5)
      generalize upd (upd (upd H1 a3 (.tup xs)) a4 (.lst [.ref P])) a5 (.lst [.ref a3, .ref q, .ref a4]) = H5 at g3 g4 g5 e5 ⊢
      refine ⟨p, _, rfl, by decide, by decide, (st.mono ex).mono e5, fun i hi0 hi1 _ => ?_⟩
      have hrl : (rows.map Row.d).length ≤ 8 := by rw [List.length_map]; exact hl
      refine mem_ix (P := SmV K H5 5) (.l g5) hi0 hi1 (fun v hv => ?_) (fun v hv => k v H5 (ex.trans e5) hv)
      simp only [List.mem_cons, List.not_mem_nil, or_false] at hv
      have hPd5 := DpAll.mono e5 _ hPd
      rcases hv with rfl | rfl | rfl
      · exact ⟨_, .tup (.of g3) hPd5, sm_mono (n := 3) (by decide) (sm_tup (by omega) (rows_sm htr))⟩
      · exact ⟨_, (hD.mono e5).dp, sm_mono (n := 2) (by decide) (sm_tup (by omega) hds)⟩
      · refine ⟨_, .lst (.of g4) (.cons (.lst (.of (e5 _ _ hP2)) hPd5) .nil), sm_mono (n := 4) (by decide) (sm_lst (by simp) fun d hd => ?_)⟩
        simp only [List.mem_cons, List.not_mem_nil, or_false] at hd
        subst hd
        exact sm_lst (by omega) (rows_sm htr)
    · exact ⟨Ex.refl H1, _, ⟨_, hD.dp, sm_tup (by omega) hds⟩, rfl⟩
  · rintro σ' H2 ⟨e2, v, hv, rfl⟩
    have hPd : DpAll K H2 xs (rows.map Row.d) := prg_dpAll (PrgL.mono e2 hPL)
    have hPk : SqL K H2 P xs := .of (e2 _ _ hP2)
    refine ⟨_, rfl, cut_lst hPk hPd (fun q1 H3 e3 hc1 => ?_)⟩
    refine ⟨by show 1 ≤ sizeLine; decide, fun a3 n3 => ?_⟩
    have x3 := Evl.Ex.new (o := .lst [v]) n3
    obtain ⟨dv, hv1, hv2⟩ := hv
    have hT : LstD K (upd H3 a3 (.lst [v])) a3 [dv] := ⟨_, upd_same, .cons (Dp.mono (e3.trans x3) _ hv1) .nil⟩
    have hrl : (rows.map Row.d).length ≤ 8 := by rw [List.length_map]; exact hl
    have l1 := cutD_len (rows.map Row.d) none (some at_)
    refine cat_lst (hc1.mono x3) hT (by simp only [List.length_cons, List.length_nil]; omega) (fun q2 H4 e4 hc2 => ?_)
    have e24 := e3.trans (x3.trans e4)
    refine ⟨_, rfl, cut_lst (Evl.ex_l e24 hPk) (DpAll.mono e24 _ hPd) (fun q3 H5 e5 hc3 => ?_)⟩
    have l2 := cutD_len (rows.map Row.d) (some (at_ + 1)) none
    refine cat_lst (hc2.mono e5) hc3 (by simp only [List.length_append, List.length_cons, List.length_nil]; omega) (fun q4 H6 e6 hc4 => ?_)
    refine k _ _ (ex.trans (e2.trans (e24.trans (e5.trans e6)))) ⟨_, hc4.dp, sm_mono (n := 3) (by decide) (sm_lst ?_ ?_)⟩
    · simp only [List.length_append, List.length_cons, List.length_nil]; omega
    · intro d hd
      simp only [List.mem_append, List.mem_cons, List.not_mem_nil, or_false] at hd
      rcases hd with (hd | rfl) | hd
      · exact rows_sm htr d (cutD_mem d hd)
      · exact hv2
      · exact rows_sm htr d (cutD_mem d hd)
end
def sp_L_tree (K : PySem.W.Frag) (_ : Str → Option Value) : Sp := fun vs H Q _ => ∃ (p : Addr) (n : Nat), vs = [.ref p, .int n] ∧ n ≤ 1000 ∧ StrmAt H p ∧ ∀ t : Tr, t.pairs ≤ n → StrmAt H p → Q (.str (S t.enc)) H

section
variable {P : Program} {w : World} {K : PySem.W.Frag} {mg : Str → Option Value} {base : Heap}
theorem ok_L_tree (T : Txt K mg w)
    (c_L_draw : Cal P w K mg base CX0 1 "_law_draw" ["_law_stream_here", "_law_many"] (sp_L_draw K mg)) : Cal P w K mg base CX0 2 "_law_tree" ["_law_stream_here", "_law_pairs"] (sp_L_tree K mg) := by
  refine T.f_L_tree.ok sc_L_tree (fun vs H Q E h => (by obtain ⟨_, _, rfl, _⟩ := h; rfl)) (fun f cdv A outer s H vs Q E hr h => ⟨_, (pss_cons (ps_set (i := 2) sc_L_tree.nd rfl (.inl rfl) pe_str)
      (pss_cons (ps_set (i := 3) sc_L_tree.nd rfl (.inl rfl) pe_int)
      (pss_cons (ps_while PassesOwn.never (nCmp oGt (nv 3) pe_int (nomark _)) (pss_one (ps_if (PW.pt (pw_or (PW.pt (pw_and (nCmp oGt (nv 1) pe_int (nomark _)) (pw_and1 (nCmp oLt (nCall c_L_draw (hr.mono (by decide)) pass0 (pa_cons (nv 0) (pa_cons (pe_op (oAdd (K := K)) (nv 3) pe_int) pa_nil))) (nv 3) (nomark _))))) (pw_or1 (PW.pt (pw_and (nCmp oGt (nv 1) pe_int (nomark _)) (pw_and (nCmp (oEq (K := K) hr.units) (nv 3) pe_int (nomark _)) (pw_and1 (nCmp oGt (nCall c_L_draw (hr.mono (by decide)) pass0 (pa_cons (nv 0) (pa_cons pe_int pa_nil))) pe_int (nomark _))))))))) (pss_cons (ps_set (i := 2) sc_L_tree.nd rfl (.inl rfl) (pe_op (oAdd (K := K)) (nv 2) pe_str))
      (pss_cons (ps_set (i := 3) sc_L_tree.nd rfl (.inl rfl) (pe_op (oAdd (K := K)) (nv 3) pe_int))
      (pss_one (ps_set (i := 1) sc_L_tree.nd rfl (.inl rfl) (pe_op oSub (nv 1) pe_int))))) (pss_cons (ps_set (i := 2) sc_L_tree.nd rfl (.inl rfl) (pe_op (oAdd (K := K)) (nv 2) pe_str))
      (pss_one (ps_set (i := 3) sc_L_tree.nd rfl (.inl rfl) (pe_op oSub (nv 3) pe_int)))))))
      (pss_one (ps_ret (nv 2)))))), ?_⟩)
  obtain ⟨p, n, rfl, hn, st, k⟩ := h
  refine ⟨fun m σ' H' => H' = H ∧ ∃ (s : List Nat) (mi pa : Nat), σ' = [some (.ref p), some (.int pa), some (.str (S s)), some (.int mi)] ∧ scan 1 s = some mi ∧ s.length + mi = 2 * (n - pa) + 1 ∧ pa ≤ n ∧ m = 2 * pa + mi, ⟨2 * n + 1, rfl, [], 1, n, rfl, rfl, by simp, Nat.le_refl _, rfl⟩, ?_⟩
  rintro m σ' H' ⟨rfl, s, mi, pa, rfl, hs, hl, hp, rfl⟩
  refine iteD (fun h0 => ?_) (fun h0 => ?_)
  · refine ⟨fun σ2 H2 => H2 = H' ∧ ∃ (s : List Nat) (mi' pa' : Nat), σ2 = [some (.ref p), some (.int pa'), some (.str (S s)), some (.int mi')] ∧ scan 1 s = some mi' ∧ s.length + mi' = 2 * (n - pa') + 1 ∧ pa' ≤ n ∧ 2 * pa' + mi' < 2 * pa + mi, ?_, ?_⟩
    · rintro σ2 H2 ⟨rfl, s', mi', pa', rfl, h1, h2, h3, h4⟩
      exact ⟨2 * pa' + mi', h4, rfl, s', mi', pa', rfl, h1, h2, h3, rfl⟩
    · obtain ⟨j, rfl⟩ : ∃ j, mi = j + 1 := ⟨mi - 1, by omega⟩
      have hz : sizeLine = 16777216 := sizeLine_eq
      -- a pair
      have yes : 0 < pa → ∃ (s' : List Nat) (mi' pa' : Nat), (([some (V.ref p), some (.int pa), some (.str (S s)), some (.int ((j + 1 : Nat) : Int))].set 2 (some (.str (S s ++ ("1" : Str))))).set 3 (some (.int (((j + 1 : Nat) : Int) + 1)))).set 1 (some (.int ((pa : Int) - 1))) = [some (.ref p), some (.int pa'), some (.str (S s')), some (.int mi')] ∧ scan 1 s' = some mi' ∧ s'.length + mi' = 2 * (n - pa') + 1 ∧ pa' ≤ n ∧ 2 * pa' + mi' < 2 * pa + (j + 1) := by
        intro hpa
        refine ⟨s ++ [49], j + 2, pa - 1, ?_, ?_, ?_, by omega, by omega⟩
        · rw [S_app1, show ((j + 1 : Nat) : Int) + 1 = ((j + 2 : Nat) : Int) by omega, show (pa : Int) - 1 = ((pa - 1 : Nat) : Int) by omega]
          rfl
        · rw [scan_append, hs]; rfl
        · rw [List.length_append]; simp only [List.length_cons, List.length_nil]; omega
      have no : ∃ (s' : List Nat) (mi' pa' : Nat), ([some (V.ref p), some (.int pa), some (.str (S s)), some (.int ((j + 1 : Nat) : Int))].set 2 (some (.str (S s ++ ("0" : Str))))).set 3 (some (.int (((j + 1 : Nat) : Int) - 1))) = [some (.ref p), some (.int pa'), some (.str (S s')), some (.int mi')] ∧ scan 1 s' = some mi' ∧ s'.length + mi' = 2 * (n - pa') + 1 ∧ pa' ≤ n ∧ 2 * pa' + mi' < 2 * pa + (j + 1) := by
        refine ⟨s ++ [48], j, pa, ?_, ?_, ?_, by omega, by omega⟩
        · rw [S_app0, show ((j + 1 : Nat) : Int) - 1 = (j : Int) by omega]
          rfl
        · rw [scan_append, hs]; rfl
        · rw [List.length_append]; simp only [List.length_cons, List.length_nil]; omega
      have len1 : (S s).length + (("1" : Str)).length ≤ sizeLine := by
        show s.length + 1 ≤ sizeLine
        omega
      refine iteD (fun hpa => ?_) (fun hpa => ?_)
      · refine ⟨p, _, rfl, by omega, by omega, st, fun v hv0 hv1 _ => iteD (fun hv => ⟨len1, rfl, yes (by omega)⟩) (fun hv => iteD (fun _ => iteI (fun e1 => ⟨p, _, rfl, by decide, by decide, st, fun v hv0 hv1 _ => iteD (fun hv => ⟨len1, rfl, yes (by omega)⟩) (fun hv => ⟨len1, rfl, no⟩)⟩) (fun e1 => ⟨len1, rfl, no⟩)) (fun hq => absurd hpa hq))⟩
      · exact iteD (fun hq => absurd hq hpa) (fun _ => ⟨len1, rfl, no⟩)
  · have e0 : mi = 0 := by omega
    subst e0
    obtain ⟨t, rfl⟩ := scan_tree hs
    refine k t ?_ st
    have := t.enc_len
    omega
end
theorem sw6 (v : V) (hv : v ∈ [V.str ("set" : Str), .str ("move" : Str), .str ("cons" : Str), .str ("head" : Str), .str ("tail" : Str), .str ("jump" : Str), .str ("cons" : Str), .str ("tail" : Str)]) :
    v = .str ("set" : Str) ∨ v = .str ("move" : Str) ∨ v = .str ("cons" : Str) ∨ v = .str ("head" : Str) ∨ v = .str ("tail" : Str) ∨ v = .str ("jump" : Str) := by
  simp only [List.mem_cons, List.not_mem_nil, or_false] at hv
  rcases hv with h | h | h | h | h | h | h | h <;> simp [h]
def sp_L_program (K : PySem.W.Frag) (_ : Str → Option Value) : Sp := fun vs H Q _ => ∃ (p : Addr) (most wide : Nat), vs = [.ref p, .int most, .int wide] ∧ most ≤ 1000 ∧ 1 ≤ wide ∧ wide ≤ 1000 ∧ StrmAt H p ∧
  ∀ (a : Addr) (H' : Hp) (xs : List V) (rows : List Row), Ex H H' → H a = none → H' a = some (.lst xs) → PrgL K H' xs rows → rows.length ≤ most → OkPrg wide rows → treesLe 3 rows → StrmAt H' p → Q (.ref a) H'

section
variable {P : Program} {w : World} {K : PySem.W.Frag} {mg : Str → Option Value} {base : Heap}
theorem ok_L_program (T : Txt K mg w)
    (c_L_tree : Cal P w K mg base CX0 2 "_law_tree" ["_law_stream_here", "_law_pairs"] (sp_L_tree K mg))
    (c_L_draw : Cal P w K mg base CX0 1 "_law_draw" ["_law_stream_here", "_law_many"] (sp_L_draw K mg)) : Cal P w K mg base CX0 3 "_law_program" ["_law_stream_here", "_law_most", "_law_wide"] (sp_L_program K mg) := by
  refine T.f_L_program.ok sc_L_program (fun vs H Q E h => (by obtain ⟨_, _, _, rfl, _⟩ := h; rfl)) (fun f cdv A outer s H vs Q E hr h => ⟨_, (pss_cons (ps_set (i := 3) sc_L_program.nd rfl (.inl rfl) (nCall c_L_draw (hr.mono (by decide)) pass0 (pa_cons (nv 0) (pa_cons (pe_op (oAdd (K := K)) (nv 1) pe_int) pa_nil))))
      (pss_cons (ps_set (i := 4) sc_L_program.nd rfl (.inl rfl) (pe_lst pa_nil))
      (pss_cons (ps_for PassesOwn.never rfl (pi_range1 (by rfl) T.n_range (pa_cons (nv 3) pa_nil)) (pg_name (i := 5) sc_L_program.nd rfl (.inl rfl)) (pss_cons (ps_set (i := 6) sc_L_program.nd rfl (.inl rfl) (pe_ix (ixU (K := K)) (pe_lst (pa_cons pe_str (pa_cons pe_str (pa_cons pe_str (pa_cons pe_str (pa_cons pe_str (pa_cons pe_str (pa_cons pe_str (pa_cons pe_str pa_nil))))))))) (nCall c_L_draw (hr.mono (by decide)) pass0 (pa_cons (nv 0) (pa_cons pe_int pa_nil))) (fun _ _ => rfl)))
      (pss_cons (ps_set (i := 7) sc_L_program.nd rfl (.inl rfl) (nCall c_L_draw (hr.mono (by decide)) pass0 (pa_cons (nv 0) (pa_cons (nv 2) pa_nil))))
      (pss_cons (ps_set (i := 8) sc_L_program.nd rfl (.inl rfl) (nCall c_L_draw (hr.mono (by decide)) pass0 (pa_cons (nv 0) (pa_cons (nv 2) pa_nil))))
      (pss_one (ps_if (nCmp (oEq (K := K) hr.units) (nv 6) pe_str (nomark _)) (pss_one (ps_expr (pe_bm PySem.F.plainAttrs_list PySem.F.slot_list_append PySem.F.type_list_append mt_append (nv 4) (pa_cons (pe_tup (pa_cons (nv 6) (pa_cons (nv 7) (pa_cons (nCall c_L_tree (hr.mono (by decide)) pass0 (pa_cons (nv 0) (pa_cons (nCall c_L_draw (hr.mono (by decide)) pass0 (pa_cons (nv 0) (pa_cons pe_int pa_nil))) pa_nil))) pa_nil)))) pa_nil)))) (pss_one (ps_if (nCmp (oEq (K := K) hr.units) (nv 6) pe_str (nomark _)) (pss_one (ps_expr (pe_bm PySem.F.plainAttrs_list PySem.F.slot_list_append PySem.F.type_list_append mt_append (nv 4) (pa_cons (pe_tup (pa_cons (nv 6) (pa_cons (nv 7) (pa_cons (nv 8) (pa_cons (nCall c_L_draw (hr.mono (by decide)) pass0 (pa_cons (nv 0) (pa_cons (nv 2) pa_nil))) pa_nil))))) pa_nil)))) (pss_one (ps_if (nCmp (oEq (K := K) hr.units) (nv 6) pe_str (nomark _)) (pss_one (ps_expr (pe_bm PySem.F.plainAttrs_list PySem.F.slot_list_append PySem.F.type_list_append mt_append (nv 4) (pa_cons (pe_tup (pa_cons (nv 6) (pa_cons (nv 7) (pa_cons (pe_op oSub (nCall c_L_draw (hr.mono (by decide)) pass0 (pa_cons (nv 0) (pa_cons (pe_op (oAdd (K := K)) (nv 3) pe_int) pa_nil))) (nv 5)) pa_nil)))) pa_nil)))) (pss_one (ps_expr (pe_bm PySem.F.plainAttrs_list PySem.F.slot_list_append PySem.F.type_list_append mt_append (nv 4) (pa_cons (pe_tup (pa_cons (nv 6) (pa_cons (nv 7) (pa_cons (nv 8) pa_nil)))) pa_nil))))))))))))))
      (pss_one (ps_ret (nv 4)))))), ?_⟩)
  obtain ⟨p, most, wide, rfl, hm, hw1, hw2, st, k⟩ := h
  have hz : sizeLine = 16777216 := sizeLine_eq
  refine ⟨p, _, rfl, by omega, by omega, st, fun v hv0 hv1 _ => ?_⟩
  obtain ⟨v, rfl⟩ := Int.eq_ofNat_of_zero_le hv0
  refine ⟨by show 0 ≤ sizeLine; decide, fun a na => ?_⟩
  have e0 := Evl.Ex.new (o := .lst []) na
  refine ⟨_, rfl, by omega, by omega, for_range (lo := 0) (n := v) (fun i σ' H' => ∃ (xs : List V) (rows : List Row) (x5 x6 x7 x8 : Option V), σ' = [some (.ref p), some (.int most), some (.int wide), some (.int v), some (.ref a), x5, x6, x7, x8] ∧ Ex H H' ∧ H' a = some (.lst xs) ∧ PrgL K H' xs rows ∧ rows.length = i ∧ (∀ j r, rows[j]? = some r → OkRow wide v j r) ∧ treesLe 3 rows)
    ⟨[], [], none, none, none, none, rfl, e0, upd_same, .nil, rfl, fun j r h => by simp at h, fun r hr => by simp at hr⟩ ?_ ?_⟩
  · rintro i σ' H' hi ⟨xs, rows, x5, x6, x7, x8, rfl, ex, hH, hP, hl, hok, htr⟩
    refine ⟨by show 8 ≤ sizeLine; decide, fun q nq => ?_⟩
    have e1 := Evl.Ex.new (o := .lst [.str ("set" : Str), .str ("move" : Str), .str ("cons" : Str), .str ("head" : Str), .str ("tail" : Str), .str ("jump" : Str), .str ("cons" : Str), .str ("tail" : Str)]) nq
    have hq : (upd H' q (.lst [.str ("set" : Str), .str ("move" : Str), .str ("cons" : Str), .str ("head" : Str), .str ("tail" : Str), .str ("jump" : Str), .str ("cons" : Str), .str ("tail" : Str)])) q = some (.lst [.str ("set" : Str), .str ("move" : Str), .str ("cons" : Str), .str ("head" : Str), .str ("tail" : Str), .str ("jump" : Str), .str ("cons" : Str), .str ("tail" : Str)]) := upd_same
    have ex1 := ex.trans e1
    have hH1 := e1 _ _ hH
    have hP1 := hP.mono e1
    generalize upd H' q (.lst [.str ("set" : Str), .str ("move" : Str), .str ("cons" : Str), .str ("head" : Str), .str ("tail" : Str), .str ("jump" : Str), .str ("cons" : Str), .str ("tail" : Str)]) = H1 at e1 hq ex1 hH1 hP1 ⊢
    have st1 := st.mono ex1
    refine ⟨p, _, rfl, by decide, by decide, st1, fun w hw0 hw1' _ => ?_⟩
    refine mem_ix (P := fun v => v = .str ("set" : Str) ∨ v = .str ("move" : Str) ∨ v = .str ("cons" : Str) ∨ v = .str ("head" : Str) ∨ v = .str ("tail" : Str) ∨ v = .str ("jump" : Str)) (.l hq) hw0 hw1' sw6 (fun w6 hw6 => ?_)
    refine ⟨p, _, rfl, by omega, by omega, st1, fun A hA0 hA1 _ => ?_⟩
    obtain ⟨A, rfl⟩ := Int.eq_ofNat_of_zero_le hA0
    refine ⟨p, _, rfl, by omega, by omega, st1, fun B hB0 hB1 _ => ?_⟩
    obtain ⟨B, rfl⟩ := Int.eq_ofNat_of_zero_le hB0
    have sz : xs.length < sizeLine := by rw [hP.length, hl]; omega
    -- a row more
    have more : ∀ (r : Row) (t : Addr), H1 t = none → OkRow wide v i r → (∀ u, r.tree = some u → u.pairs ≤ 3) → ∃ (xs' : List V) (rows' : List Row),
        upd (upd H1 t (.tup r.vs)) a (.lst (xs ++ [.ref t])) = upd (upd H1 t (.tup r.vs)) a (.lst xs') ∧ Ex H (upd (upd H1 t (.tup r.vs)) a (.lst xs')) ∧ (upd (upd H1 t (.tup r.vs)) a (.lst xs')) a = some (.lst xs') ∧ PrgL K (upd (upd H1 t (.tup r.vs)) a (.lst xs')) xs' rows' ∧ rows'.length = i + 1 ∧ (∀ j r, rows'[j]? = some r → OkRow wide v j r) ∧ treesLe 3 rows' := by
      intro r t nt hr ht
      have nta : t ≠ a := fun e => by rw [e, hH1] at nt; cases nt
      have ext := Evl.Ex.new (o := .tup r.vs) nt
      refine ⟨xs ++ [.ref t], rows ++ [r], rfl, Evl.Ex.mut (ex1.trans ext) na, upd_same, ?_, by rw [List.length_append, hl]; rfl, ?_, ?_⟩
      · have kp : Kp a (upd H1 t (.tup r.vs)) (upd (upd H1 t (.tup r.vs)) a (.lst (xs ++ [.ref t]))) := (Kp.refl _ _).upd
        refine paired_app (kp.prg (ext _ _ hH1) (hP1.mono ext)) (.cons ⟨t, rfl, .of ?_⟩ .nil)
        rw [upd_ne nta, upd_same]
      · intro j s hj
        rw [List.getElem?_append] at hj
        split at hj
        · exact hok j s hj
        · rename_i hge
          rw [hl] at hge hj
          have : j = i := by
            by_cases q : j = i
            · exact q
            · rw [List.getElem?_eq_none (by simp only [List.length_singleton]; omega)] at hj; cases hj
          subst this
          rw [Nat.sub_self] at hj
          cases hj
          exact hr
      · intro s hs u hu
        rcases List.mem_append.mp hs with h | h
        · exact htr s h u hu
        · rw [List.mem_singleton.mp h] at hu
          exact ht u hu
    have two : ∀ x, x ∈ [A, B] → x < wide := fun x hx => by
      simp only [List.mem_cons, List.not_mem_nil, or_false] at hx
      rcases hx with h | h <;> omega
    rcases hw6 with rfl | rfl | rfl | rfl | rfl | rfl
    · refine ⟨.inl ⟨rfl, _, .of hH1⟩, p, _, rfl, by decide, by decide, st1, fun n hn0 hn1 _ => ?_⟩
      obtain ⟨n, rfl⟩ := Int.eq_ofNat_of_zero_le hn0
      refine ⟨p, n, rfl, by omega, st1, fun u hu _ => ⟨by show 3 ≤ sizeLine; decide, fun t nt => ?_⟩⟩
      obtain ⟨xs', rows', h1, h2, h3, h4, h5, h6, h7⟩ := more (.set A u) t nt (fun x hx => two x (by rw [List.mem_singleton.mp hx]; exact List.mem_cons_self)) (fun w hw => by cases hw; omega)
      have nta : a ≠ t := fun e => by rw [← e, hH1] at nt; cases nt
      refine ⟨a, xs, _, rfl, rfl, by rw [upd_ne nta]; exact hH1, sz, xs', rows', _, _, _, _, rfl, ?_⟩
      exact h1 ▸ ⟨h2, h3, h4, h5, h6, h7⟩
    · refine ⟨.inl ⟨rfl, _, .of hH1⟩, by show 3 ≤ sizeLine; decide, fun t nt => ?_⟩
      obtain ⟨xs', rows', h1, h2, h3, h4, h5, h6, h7⟩ := more (.move A B) t nt two (fun w hw => by cases hw)
      have nta : a ≠ t := fun e => by rw [← e, hH1] at nt; cases nt
      refine ⟨a, xs, _, rfl, rfl, by rw [upd_ne nta]; exact hH1, sz, xs', rows', _, _, _, _, rfl, ?_⟩
      exact h1 ▸ ⟨h2, h3, h4, h5, h6, h7⟩
    · refine ⟨.inl ⟨rfl, _, .of hH1⟩, p, _, rfl, by omega, by omega, st1, fun C hC0 hC1 _ => ?_⟩
      obtain ⟨C, rfl⟩ := Int.eq_ofNat_of_zero_le hC0
      refine ⟨by show 4 ≤ sizeLine; decide, fun t nt => ?_⟩
      obtain ⟨xs', rows', h1, h2, h3, h4, h5, h6, h7⟩ := more (.cons A B C) t nt (fun x hx => by
        have hx' : x ∈ [A, B, C] := hx
        simp only [List.mem_cons, List.not_mem_nil, or_false] at hx'
        rcases hx' with h | h | h <;> omega) (fun w hw => by cases hw)
      have nta : a ≠ t := fun e => by rw [← e, hH1] at nt; cases nt
      refine ⟨a, xs, _, rfl, rfl, by rw [upd_ne nta]; exact hH1, sz, xs', rows', _, _, _, _, rfl, ?_⟩
      exact h1 ▸ ⟨h2, h3, h4, h5, h6, h7⟩
    · refine ⟨.inl ⟨rfl, _, .of hH1⟩, by show 3 ≤ sizeLine; decide, fun t nt => ?_⟩
      obtain ⟨xs', rows', h1, h2, h3, h4, h5, h6, h7⟩ := more (.head A B) t nt two (fun w hw => by cases hw)
      have nta : a ≠ t := fun e => by rw [← e, hH1] at nt; cases nt
      refine ⟨a, xs, _, rfl, rfl, by rw [upd_ne nta]; exact hH1, sz, xs', rows', _, _, _, _, rfl, ?_⟩
      exact h1 ▸ ⟨h2, h3, h4, h5, h6, h7⟩
    · refine ⟨.inl ⟨rfl, _, .of hH1⟩, by show 3 ≤ sizeLine; decide, fun t nt => ?_⟩
      obtain ⟨xs', rows', h1, h2, h3, h4, h5, h6, h7⟩ := more (.tail A B) t nt two (fun w hw => by cases hw)
      have nta : a ≠ t := fun e => by rw [← e, hH1] at nt; cases nt
      refine ⟨a, xs, _, rfl, rfl, by rw [upd_ne nta]; exact hH1, sz, xs', rows', _, _, _, _, rfl, ?_⟩
      exact h1 ▸ ⟨h2, h3, h4, h5, h6, h7⟩
    · refine ⟨.inl ⟨rfl, _, .of hH1⟩, p, _, rfl, by omega, by omega, st1, fun C hC0 hC1 _ => ?_⟩
      refine ⟨by show 3 ≤ sizeLine; decide, fun t nt => ?_⟩
      obtain ⟨xs', rows', h1, h2, h3, h4, h5, h6, h7⟩ := more (.jump A (C - (0 + (i : Int)))) t nt ⟨by omega, by omega, by omega⟩ (fun w hw => by cases hw)
      have nta : a ≠ t := fun e => by rw [← e, hH1] at nt; cases nt
      refine ⟨a, xs, _, rfl, rfl, by rw [upd_ne nta]; exact hH1, sz, xs', rows', _, _, _, _, rfl, ?_⟩
      exact h1 ▸ ⟨h2, h3, h4, h5, h6, h7⟩
  · rintro σ' H' ⟨xs, rows, x5, x6, x7, x8, rfl, ex, hH, hP, hl, hok, htr⟩
    exact k a H' xs rows ex na hH hP (by omega) (fun i r h => hl ▸ hok i r h) htr (st.mono ex)
end
def sp_L_streamL (K : PySem.W.Frag) (_ : Str → Option Value) : Sp := fun vs H Q _ => ∃ (a : Addr) (ns : List Int), vs = [.ref a] ∧ SqL K H a (ns.map V.int) ∧
  ∀ (p q : Addr) (H' : Hp) (c : Int), Ex H H' → H p = none → p ≠ q → H' q = some (.lst (ns.map V.int)) → H' p = some (.lst [.ref q, .int 0, .int 0, .int c]) → Q (.ref p) H'
def sp_L_stream (K : PySem.W.Frag) (_ : Str → Option Value) : Sp := fun vs H Q _ => ∃ (a : Addr) (ns : List Int), vs = [.ref a] ∧ SqL K H a (ns.map V.int) ∧
  ∀ (p : Addr) (H' : Hp), Ex H H' → StrmAt H' p → Q (.ref p) H'

section
variable {P : Program} {w : World} {K : PySem.W.Frag} {mg : Str → Option Value} {base : Heap}
theorem ok_L_stream (T : Txt K mg w) : Cal P w K mg base CX0 1 "_law_stream" ["_law_script"] (sp_L_stream K mg) := by
  refine Cal.seal (sp := sp_L_streamL K mg) (T.f_L_stream.ok sc_L_stream (fun vs H Q E h => (by obtain ⟨_, _, rfl, _⟩ := h; rfl)) (fun f cdv A outer s H vs Q E hr h => ⟨_, (pss_cons (ps_set (i := 1) sc_L_stream.nd rfl (.inl rfl) pe_int)
      (pss_cons (ps_for PassesOwn.never rfl (piAny (K := K) (nv 0)) (pg_name (i := 2) sc_L_stream.nd rfl (.inl rfl)) (pss_one (ps_set (i := 1) sc_L_stream.nd rfl (.inl rfl) (pe_op oMod (pe_callTy cInt (by rfl) T.n_int PyProof.Rows.boot_int (pa_cons (pe_op (oAdd (K := K)) (pe_op (oAdd (K := K)) (pe_op (oMul (K := K)) (nv 1) pe_int) (pe_op oMod (pe_callTy cInt (by rfl) T.n_int PyProof.Rows.boot_int (pa_cons (nv 2) pa_nil)) pe_int)) pe_int) pa_nil)) pe_int))))
      (pss_one (ps_ret (pe_lst (pa_cons (pe_callTy (cList (K := K)) (by rfl) T.n_list PyProof.Rows.boot_list (pa_cons (nv 0) pa_nil)) (pa_cons pe_int (pa_cons pe_int (pa_cons (nv 1) pa_nil))))))))), ?_⟩)) ?_
  · obtain ⟨a, ns, rfl, hS, k⟩ := h
    refine .inl ⟨⟨_, hS⟩, for_list (K := K) (a := a) (xs := ns.map V.int) (fun i σ H' => H' = H ∧ ∃ (c : Int) (v : Option V), σ = [some (.ref a), some (.int c), v]) ⟨rfl, 17, none, rfl⟩ (fun i σ H' _ e => by rw [e.1]; exact hS) ?_ ?_⟩
    · rintro i x σ H' hi ⟨rfl, c, v, rfl⟩
      obtain ⟨z, rfl⟩ : ∃ z, x = V.int z := by
        rw [List.getElem?_map] at hi
        cases e : ns[i]? with
        | none => rw [e] at hi; cases hi
        | some u => rw [e] at hi; exact ⟨u, (Option.some.inj hi).symm⟩
      refine ⟨.inr ⟨by decide, by decide⟩, by decide, by decide, rfl, _, _, rfl⟩
    · rintro σ H' ⟨rfl, c, v, rfl⟩
      refine ⟨_, .inl hS, fun q nq => ⟨by show 4 ≤ sizeLine; decide, fun p np => ?_⟩⟩
      have npq : p ≠ q := fun e => by rw [e, upd_same] at np; cases np
      have np' : H' p = none := by rw [upd_ne npq] at np; exact np
      exact k p q _ c ((Evl.Ex.new nq).trans (Evl.Ex.new np)) np' npq (by rw [upd_ne npq.symm, upd_same]) upd_same
  · rintro vs H Q E ⟨a, ns, rfl, hS, k⟩
    refine ⟨a, ns, rfl, hS, fun p q H' c e np npq hq hp => ⟨p, q, 0, 0, c, hp, by decide, k p _ (e.mut np) ⟨q, ns, upd_same, by rw [upd_ne npq.symm]; exact hq⟩⟩⟩
end
theorem isRow_ok {r : Row} {at_ cnt : Nat} (h : OkRow 20 cnt at_ r) (ht : ∀ t, r.tree = some t → t.enc.length ≤ 200000) : isRowD at_ cnt r.d = true := by
  have hreg : ∀ x : Nat, x < 20 → regD (.int x) = true := fun x hx => by
    show (decide ((0 : Int) ≤ x) && decide ((x : Int) < 20)) = true
    rw [decide_eq_true (by omega), decide_eq_true (by omega)]; rfl
  cases r with
  | set a t =>
    have h1 := h a (List.mem_cons_self)
    simp only [Row.d, Row.ds, isRowD]
    rw [if_pos trivial, show treeD (.str (S t.enc)) = isTr t.enc from rfl, isTr_enc (ht t rfl), hreg a h1]; rfl
  | move a b =>
    have h1 := h a (List.mem_cons_self)
    have h2 := h b (List.mem_cons_of_mem _ List.mem_cons_self)
    simp only [Row.d, Row.ds, isRowD]
    rw [if_neg (by decide +kernel), if_neg (by decide +kernel), if_pos (by first | trivial | exact .inl trivial | exact .inr trivial | exact .inr (.inl trivial) | exact .inr (.inr trivial)), hreg a h1, hreg b h2]; rfl
  | head a b =>
    have h1 := h a (List.mem_cons_self)
    have h2 := h b (List.mem_cons_of_mem _ List.mem_cons_self)
    simp only [Row.d, Row.ds, isRowD]
    rw [if_neg (by decide +kernel), if_neg (by decide +kernel), if_pos (by first | trivial | exact .inl trivial | exact .inr trivial | exact .inr (.inl trivial) | exact .inr (.inr trivial)), hreg a h1, hreg b h2]; rfl
  | tail a b =>
    have h1 := h a (List.mem_cons_self)
    have h2 := h b (List.mem_cons_of_mem _ List.mem_cons_self)
    simp only [Row.d, Row.ds, isRowD]
    rw [if_neg (by decide +kernel), if_neg (by decide +kernel), if_pos (by first | trivial | exact .inl trivial | exact .inr trivial | exact .inr (.inl trivial) | exact .inr (.inr trivial)), hreg a h1, hreg b h2]; rfl
  | cons a b c =>
    have h1 := h a (List.mem_cons_self)
    have h2 := h b (List.mem_cons_of_mem _ List.mem_cons_self)
    have h3 := h c (List.mem_cons_of_mem _ (List.mem_cons_of_mem _ List.mem_cons_self))
    simp only [Row.d, Row.ds, isRowD]
    rw [if_pos trivial, hreg a h1, hreg b h2, hreg c h3]; rfl
  | jump a n =>
    obtain ⟨h1, h2, h3⟩ := h
    simp only [Row.d, Row.ds, isRowD]
    rw [if_neg (by decide +kernel), if_pos trivial, hreg a h1, decide_eq_true h2, decide_eq_true h3]; rfl
theorem rowsD_ok {cnt : Nat} : ∀ {rows : List Row} {j : Nat}, (∀ i r, rows[i]? = some r → OkRow 20 cnt (j + i) r) → (∀ r ∈ rows, ∀ t, r.tree = some t → t.enc.length ≤ 200000) → rowsD cnt j (rows.map Row.d) = true
  | [], _, _, _ => rfl
  | r :: rs, j, h, ht => by
    show (isRowD j cnt r.d && rowsD cnt (j + 1) (rs.map Row.d)) = true
    rw [isRow_ok (at_ := j) (h 0 r rfl) (ht r List.mem_cons_self), rowsD_ok (j := j + 1) (fun i r' e => by have := h (i + 1) r' (by simpa using e); rw [show j + 1 + i = j + (i + 1) by omega]; exact this) (fun r' h' => ht r' (List.mem_cons_of_mem _ h'))]
    rfl
theorem setLen_row (r : Row) (m : Nat) (h : ∀ t, r.tree = some t → t.enc.length ≤ m) : setLen r.d ≤ m := by
  cases r with
  | set a t =>
    show (if ("set" : Str) = "set" then (S t.enc).length else 0) ≤ m
    rw [if_pos rfl, S_len]; exact h t rfl
  | move a b => exact Nat.zero_le _
  | cons a b c => exact Nat.zero_le _
  | head a b => exact Nat.zero_le _
  | tail a b => exact Nat.zero_le _
  | jump a n => exact Nat.zero_le _
theorem sum_le {α : Type} (f : α → Nat) (m : Nat) : ∀ l : List α, (∀ x ∈ l, f x ≤ m) → (l.map f).sum ≤ m * l.length
  | [], _ => Nat.zero_le _
  | x :: l, h => by
    have h1 := h x List.mem_cons_self
    have h2 := sum_le f m l fun y q => h y (List.mem_cons_of_mem _ q)
    rw [List.map_cons, List.sum_cons, List.length_cons, Nat.mul_succ]
    omega
theorem prog_small {rows : List Row} (h : OkPrg 20 rows) (hl : rows.length ≤ 8) (ht : treesLe 3 rows) : isProgD (prgD rows) = true := by
  have hl' : (rows.map Row.d).length = rows.length := List.length_map _
  have htl : ∀ r ∈ rows, ∀ t, r.tree = some t → t.enc.length ≤ 7 := fun r hr t e => by
    have := ht r hr t e
    have := t.enc_len
    omega
  have hs := sum_le setLen 7 (rows.map Row.d) fun d hd => by
    obtain ⟨r, hr, rfl⟩ := List.mem_map.mp hd
    exact setLen_row r 7 (htl r hr)
  show (decide ((rows.map Row.d).length ≤ 600) && (rowsD ((rows.map Row.d).length : Nat) 0 (rows.map Row.d) && decide (((rows.map Row.d).map setLen).sum ≤ 200000))) = true
  rw [decide_eq_true (by omega), decide_eq_true (by rw [hl'] at hs; omega), hl', rowsD_ok (fun i r e => by rw [Nat.zero_add]; exact h i r e) (fun r hr t e => by have := htl r hr t e; omega)]
  rfl
theorem tails_prog (n : Nat) : isProgD (prgD (List.replicate n (Row.tail 0 0))) = decide (n ≤ 600) := by
  have hl' : ((List.replicate n (Row.tail 0 0)).map Row.d).length = n := by rw [List.length_map, List.length_replicate]
  have hs := sum_le setLen 0 ((List.replicate n (Row.tail 0 0)).map Row.d) fun d hd => by
    obtain ⟨r, hr, rfl⟩ := List.mem_map.mp hd
    rw [(List.mem_replicate.mp hr).2]
    exact Nat.le_refl 0
  show (decide (((List.replicate n (Row.tail 0 0)).map Row.d).length ≤ 600) && (rowsD (((List.replicate n (Row.tail 0 0)).map Row.d).length : Nat) 0 ((List.replicate n (Row.tail 0 0)).map Row.d) && decide ((((List.replicate n (Row.tail 0 0)).map Row.d).map setLen).sum ≤ 200000))) = _
  rw [hl', decide_eq_true (p := _ ≤ 200000) (by omega), rowsD_ok (fun i r e => ?_) (fun r hr t e => ?_), Bool.and_true, Bool.and_true]
  · rw [(List.mem_replicate.mp (mem_of_get e)).2]
    intro x hx
    simp [Row.regs] at hx
    omega
  · rw [(List.mem_replicate.mp hr).2] at e
    cases e
theorem two_prog {m : Nat} (h : m ≤ 90000) : isProgD (prgD [.set 0 (numT m), .set 1 (numT m)]) = decide (2 * (2 * m + 1) ≤ 200000) := by
  have tl := tens_len m
  have te : (numT m).enc.length = 2 * m + 1 := by rw [numT_enc, tl]
  have ok : rowsD (2 : Nat) 0 ([Row.set 0 (numT m), .set 1 (numT m)].map Row.d) = true := rowsD_ok (fun i r e => by
    rcases i with _ | _ | i
    · cases e; intro x hx; simp [Row.regs] at hx; omega
    · cases e; intro x hx; simp [Row.regs] at hx; omega
    · simp at e) (fun r hr t e => by
      simp only [List.mem_cons, List.not_mem_nil, or_false] at hr
      rcases hr with rfl | rfl <;> (cases e; omega))
  have hs : (([Row.set 0 (numT m), .set 1 (numT m)].map Row.d).map setLen).sum = 2 * (2 * m + 1) := by
    show (if ("set" : Str) = "set" then (S (numT m).enc).length else 0) + ((if ("set" : Str) = "set" then (S (numT m).enc).length else 0) + 0) = _
    rw [if_pos rfl, S_len, te]; omega
  show (decide (2 ≤ 600) && (rowsD ((2 : Nat) : Int) 0 ([Row.set 0 (numT m), .set 1 (numT m)].map Row.d) && decide ((([Row.set 0 (numT m), .set 1 (numT m)].map Row.d).map setLen).sum ≤ 200000))) = _
  rw [ok, hs]; rfl
theorem sm_list {n : Nat} {ds : List PyData} (h : sm (n + 1) (.list ds) = true) : ds.length ≤ 100 ∧ ∀ d ∈ ds, sm n d = true := by
  have h' : (decide (ds.length ≤ 100) && ds.all (sm n)) = true := h
  rw [Bool.and_eq_true, List.all_eq_true] at h'
  exact ⟨of_decide_eq_true h'.1, h'.2⟩
theorem sm_tuple {n : Nat} {ds : List PyData} (h : sm (n + 1) (.tuple ds) = true) : ds.length ≤ 100 ∧ ∀ d ∈ ds, sm n d = true := by
  have h' : (decide (ds.length ≤ 100) && ds.all (sm n)) = true := h
  rw [Bool.and_eq_true, List.all_eq_true] at h'
  exact ⟨of_decide_eq_true h'.1, h'.2⟩
theorem sm_str {n : Nat} {s : Str} (h : sm (n + 1) (.str s) = true) : s.length ≤ 20 := by
  have h' : (decide (s.length ≤ 20) && _) = true := h
  rw [Bool.and_eq_true] at h'
  exact of_decide_eq_true h'.1
theorem sm_asks {d : PyData} (h : sm 5 d = true) : askL d ∧ askD d := by
  have key : ∀ ds, d = .list ds → (∀ a b s, PyData.tuple [a, b, .str s] ∈ ds → s.length ≤ 20) ∧ (∀ es, PyData.tuple es ∈ ds → es.length ≤ 100) := fun ds e => by
    subst e
    obtain ⟨_, h2⟩ := sm_list h
    refine ⟨fun a b s q => ?_, fun es q => (sm_tuple (h2 _ q)).1⟩
    exact sm_str ((sm_tuple (h2 _ q)).2 (.str s) (by simp))
  refine ⟨fun ds e => ⟨fun a b s q => ?_, fun es q => ?_⟩, fun ds e => ⟨fun a b s q => ?_, fun es q => ?_⟩⟩
  · have := (key ds e).1 a b s q; omega
  · have := (key ds e).2 es q; omega
  · have := (key ds e).1 a b s q; omega
  · have := (key ds e).2 es q; omega
theorem setLen_sm {n : Nat} {d : PyData} (h : sm (n + 2) d = true) : setLen d ≤ 20 := by
  unfold setLen
  split
  · split
    · exact sm_str ((sm_tuple h).2 _ (by simp))
    · exact Nat.zero_le _
  · exact Nat.zero_le _
theorem sm_due {d : PyData} (h : sm 5 d = true) : dueD d = isProgD d := by
  cases d with
  | list ds =>
    obtain ⟨h1, h2⟩ := sm_list h
    have hs := sum_le setLen 20 ds fun d hd => setLen_sm (n := 2) (h2 d hd)
    show (decide (ds.length ≤ 600) && rowsD ds.length 0 ds) = (decide (ds.length ≤ 600) && (rowsD ds.length 0 ds && decide ((ds.map setLen).sum ≤ 200000)))
    rw [decide_eq_true (p := _ ≤ 200000) (by omega), Bool.and_true]
  | _ => rfl
theorem prg_ask {rows : List Row} (h : ∀ r ∈ rows, ∀ t, r.tree = some t → t.enc.length ≤ 10000000) : askD (prgD rows) := fun ds e => by
  cases e
  refine ⟨fun a b s q => ?_, fun es q => ?_⟩
  · obtain ⟨r, hr, e⟩ := List.mem_map.mp q
    cases r with
    | set x t =>
      simp only [Row.d, Row.ds, PyData.tuple.injEq, List.cons.injEq, PyData.str.injEq] at e
      obtain ⟨_, _, rfl, _⟩ := e
      rw [S_len]
      exact h _ hr t rfl
    | move a b => simp [Row.d, Row.ds] at e
    | cons a b c => simp [Row.d, Row.ds] at e
    | head a b => simp [Row.d, Row.ds] at e
    | tail a b => simp [Row.d, Row.ds] at e
    | jump a b => simp [Row.d, Row.ds] at e
  · obtain ⟨r, hr, e⟩ := List.mem_map.mp q
    cases r <;> (simp only [Row.d, Row.ds, PyData.tuple.injEq] at e; subst e; simp)
theorem le600 (m : Nat) : decide (599 + m ≤ 600) = decide ((599 : Int) + (m : Int) ≤ 600) := by
  by_cases q : m ≤ 1
  · rw [decide_eq_true (by omega), decide_eq_true (by omega)]
  · rw [decide_eq_false (by omega), decide_eq_false (by omega)]
/-- a value y of the copy for the part e -/
def CopyD (K : PySem.W.Frag) (H H' : Hp) (D : Addr) (y : V) (e : PyData) : Prop := Dp K H y e ∨ ∃ l xs es, y = .ref l ∧ l ≠ D ∧ H' l = some (.lst xs) ∧ DpAll K H xs es ∧ e = .list es
theorem copy_step {K : PySem.W.Frag} {D : Addr} {H H' H2 : Hp} {zs : List V} {ds : List PyData} {i : Nat} {e : PyData} {y : V} (nD : H D = none) (ex : Ex H H2) (kp : ∀ l xs, l ≠ D → H' l = some (.lst xs) → H2 l = some (.lst xs)) (hz : Paired (CopyD K H H' D) zs (ds.take i)) (he : ds[i]? = some e) (hy : CopyD K H H2 D y e) :
    Ex H (upd H2 D (.lst (zs ++ [y]))) ∧ ∃ ys, (upd H2 D (.lst (zs ++ [y]))) D = some (.lst ys) ∧ Paired (CopyD K H (upd H2 D (.lst (zs ++ [y]))) D) ys (ds.take (i + 1)) := by
  refine ⟨Evl.Ex.mut ex nD, _, upd_same, ?_⟩
  have ht : ds.take (i + 1) = ds.take i ++ [e] := by rw [List.take_add_one, he]; rfl
  rw [ht]
  have up : ∀ x d, CopyD K H H2 D x d → CopyD K H (upd H2 D (.lst (zs ++ [y]))) D x d := fun x d h => by
    rcases h with h | ⟨l, xs, es, h1, h2, h3, h4, h5⟩
    · exact .inl h
    · exact .inr ⟨l, xs, es, h1, h2, by rw [upd_ne h2]; exact h3, h4, h5⟩
  have up0 : ∀ x d, CopyD K H H' D x d → CopyD K H H2 D x d := fun x d h => by
    rcases h with h | ⟨l, xs, es, h1, h2, h3, h4, h5⟩
    · exact .inl h
    · exact .inr ⟨l, xs, es, h1, h2, kp _ _ h2 h3, h4, h5⟩
  exact paired_app (Paired.mapP hz fun x d q => up x d (up0 x d q)) (.cons (up _ _ hy) .nil)
theorem copy_all {K : PySem.W.Frag} {D : Addr} {H H' : Hp} (ex : Ex H H') : ∀ {zs : List V} {es : List PyData}, Paired (CopyD K H H' D) zs es → DpAll K H' zs es
  | _, _, .nil => .nil
  | _, _, .cons (.inl h) t => .cons (Dp.mono ex _ h) (copy_all ex t)
  | _, _, .cons (.inr ⟨l, xs, es, h1, _, h3, h4, h5⟩) t => by
    subst h1; subst h5
    exact .cons (.lst (.of h3) (DpAll.mono ex _ h4)) (copy_all ex t)

section
variable {P : Program} {w : World} {K : PySem.W.Frag} {mg : Str → Option Value} {base : Heap}
theorem ok_L_law {f : Addr} {fd : FuncData} (T : Txt K mg w) (F : Fun K "law" "law" s_L_law f fd)
    (c_programs_is_program : Cal P w K mg base CX0 3 "is_program" ["value"] (sp_programs_is_program K mg))
    (c_L_draw : Cal P w K mg base CX0 1 "_law_draw" ["_law_stream_here", "_law_many"] (sp_L_draw K mg))
    (c_L_due : Cal P w K mg base CX0 3 "_law_due" ["_law_value"] (sp_L_due K mg))
    (c_L_changed : Cal P w K mg base CX0 2 "_law_changed" ["_law_stream_here", "_law_program_here"] (sp_L_changed K mg))
    (c_L_program : Cal P w K mg base CX0 3 "_law_program" ["_law_stream_here", "_law_most", "_law_wide"] (sp_L_program K mg))
    (c_L_stream : Cal P w K mg base CX0 1 "_law_stream" ["_law_script"] (sp_L_stream K mg)) : FnOk P w K mg base CX0 4 f fd ["_law_script"] (spLaw K mg) := by
  refine F.ok sc_L_law (fun vs H Q E h => (by obtain ⟨_, _, rfl, _⟩ := h; rfl)) (fun cdv A outer s H vs Q E hr h => ⟨_, (pss_cons (ps_set (i := 1) sc_L_law.nd rfl (.inl rfl) (nCall c_L_stream (hr.mono (by decide)) pass0 (pa_cons (nv 0) pa_nil)))
      (pss_cons (ps_set (i := 2) sc_L_law.nd rfl (.inl rfl) (nCall c_L_program (hr.mono (by decide)) pass0 (pa_cons (nv 1) (pa_cons pe_int (pa_cons pe_int pa_nil)))))
      (pss_cons (ps_if (PW.pt (pw_or (nCmp oIsNot (nCall c_programs_is_program (hr.mono (by decide)) pass0 (pa_cons (nv 2) pa_nil)) pe_bl (nomark _)) (pw_or (nCmp (oNe (K := K) hr.units) (nGlobI T.m_MOST_CODE) pe_int (nomark _)) (pw_or1 (nCmp (oNe (K := K) hr.units) (nGlobI T.m_REGISTERS) pe_int (nomark _)))))) (pss_one (ps_ret pe_bl)) pss_nil)
      (Evl.pss_cut (ps_if (nCmp oGt (nCall c_L_draw (hr.mono (by decide)) pass0 (pa_cons (nv 1) (pa_cons pe_int pa_nil))) pe_int (nomark _)) (pss_one (ps_set (i := 2) sc_L_law.nd rfl (.inl rfl) (nCall c_L_changed (hr.mono (by decide)) pass0 (pa_cons (nv 1) (pa_cons (nv 2) pa_nil))))) pss_nil)
      (pss_cons (ps_set (i := 3) sc_L_law.nd rfl (.inl rfl) (nCall c_L_due (hr.mono (by decide)) pass0 (pa_cons (nv 2) pa_nil)))
      (pss_cons (ps_set (i := 4) sc_L_law.nd rfl (.inl rfl) (nv 2))
      (Evl.pss_cut (ps_if (nVal (pe_callB (cIsi (K := K)) (by rfl) T.n_isinstance PyProof.Rows.boot_isinstance (pa_cons (nv 2) (pa_cons (nTy T.n_list PyProof.Rows.boot_list) pa_nil)))) (pss_one (ps_setLc (i := 4) (own := [("_law_row", 5)]) (g := gName 5) (tt := tYes) rfl sc_L_law.nd rfl rfl (sw_true rfl rfl rfl (by decide +kernel)) (piAny (K := K) (nv 2)) (blkOk_by (own := [("_law_row", 5)]) (N := ["_law_script", "_law_stream_here", "_law_value", "_law_due_here", "_law_kept", "_law_row", "_law_actual", "_law_many", "_law_tree_here"]) (sc := defScope s_L_law) (by decide +kernel)) (fun _ _ _ _ _ => (pg_name (i := 5) sc_L_law.nd rfl (.inl rfl))) (fun _ _ _ _ _ => pts_nil) (fun _ _ _ _ _ => (pe_ifExp (nVal (pe_callB (cIsi (K := K)) (by rfl) T.n_isinstance PyProof.Rows.boot_isinstance (pa_cons (nv 5) (pa_cons (nTy T.n_list PyProof.Rows.boot_list) pa_nil)))) (pe_callTy (cList (K := K)) (by rfl) T.n_list PyProof.Rows.boot_list (pa_cons (nv 5) pa_nil)) (nv 5))))) pss_nil)
      (pss_cons (ps_set (i := 6) sc_L_law.nd rfl (.inl rfl) (nCall c_programs_is_program (hr.mono (by decide)) pass0 (pa_cons (nv 2) pa_nil)))
      (Evl.pss_cut (ps_if (PW.pt (pw_or (pt_not (nVal (pe_callB (cIsi (K := K)) (by rfl) T.n_isinstance PyProof.Rows.boot_isinstance (pa_cons (nv 6) (pa_cons (nTy T.n_bool PyProof.Rows.boot_bool) pa_nil))))) (pw_or (nCmp (oNe (K := K) hr.units) (nv 6) (nv 3) (nomark _)) (pw_or (nCmp (oNe (K := K) hr.units) (nv 2) (nv 4) (nomark _)) (pw_or1 (nCmp (oNe (K := K) hr.units) (nCall c_programs_is_program (hr.mono (by decide)) pass0 (pa_cons (nv 2) pa_nil)) (nv 3) (nomark _))))))) (pss_one (ps_ret pe_bl)) pss_nil)
      (pss_cons (ps_set (i := 7) sc_L_law.nd rfl (.inl rfl) (pe_op (oAdd (K := K)) pe_int (nCall c_L_draw (hr.mono (by decide)) pass0 (pa_cons (nv 1) (pa_cons pe_int pa_nil)))))
      (pss_cons (ps_if (nCmp (oNe (K := K) hr.units) (nCall c_programs_is_program (hr.mono (by decide)) pass0 (pa_cons (pe_op (oMul (K := K)) (pe_lst (pa_cons (pe_tup (pa_cons pe_str (pa_cons pe_int (pa_cons pe_int pa_nil)))) pa_nil)) (nv 7)) pa_nil)) (pe_cmpR oLe (nv 7) pe_int (nomark _)) (nomark _)) (pss_one (ps_ret pe_bl)) pss_nil)
      (pss_cons (ps_if (nCmp oGt (nCall c_L_draw (hr.mono (by decide)) pass0 (pa_cons (nv 1) (pa_cons pe_int pa_nil))) pe_int (nomark _)) (pss_one (ps_ret pe_bl)) pss_nil)
      (pss_cons (ps_set (i := 7) sc_L_law.nd rfl (.inl rfl) (pe_op (oAdd (K := K)) pe_int (nCall c_L_draw (hr.mono (by decide)) pass0 (pa_cons (nv 1) (pa_cons pe_int pa_nil)))))
      (pss_cons (ps_set (i := 8) sc_L_law.nd rfl (.inl rfl) (pe_op (oAdd (K := K)) (pe_op (oMul (K := K)) pe_str (nv 7)) pe_str))
      (pss_one (ps_ret (pe_cmpR (oEq (K := K) hr.units) (nCall c_programs_is_program (hr.mono (by decide)) pass0 (pa_cons (pe_lst (pa_cons (pe_tup (pa_cons pe_str (pa_cons pe_int (pa_cons (nv 8) pa_nil)))) (pa_cons (pe_tup (pa_cons pe_str (pa_cons pe_int (pa_cons (nv 8) pa_nil)))) pa_nil))) pa_nil)) (pe_cmpR oLe (pe_op (oMul (K := K)) pe_int (pe_callB (cLen (K := K)) (by rfl) T.n_len PySem.boot_len (pa_cons (nv 8) pa_nil))) pe_int (nomark _)) (nomark _)))))))))))))))))), ?_⟩)
  obtain ⟨a, ns, rfl, hS, hlen, k⟩ := h
  have hz : sizeLine = 16777216 := sizeLine_eq
  refine ⟨a, ns, rfl, hS, fun s H1 e1 st => ?_⟩
  refine ⟨s, 8, 20, rfl, by decide, by decide, by decide, st, fun P H2 xs rows e2 nP hP hL hl hok htr st2 => ?_⟩
  have hPd : PrgAt K H2 P rows := ⟨xs, .of hP, hL⟩
  have hsm : sm 5 (prgD rows) = true := sm_mono (n := 3) (by decide) (sm_lst (by rw [List.length_map]; omega) (rows_sm htr))
  refine ⟨.ref P, prgD rows, rfl, hPd.dp, (sm_asks hsm).2, fun H3 e3 => ?_⟩
  rw [prog_small hok hl htr]
  refine ⟨fun σ' H' => ∃ v, σ' = [some (.ref a), some (.ref s), some v, none, none, none, none, none, none] ∧ StrmAt H' s ∧ SmV K H' 5 v, ?_, ?_⟩
  · have st3 := st2.mono e3
    refine ⟨s, _, rfl, by decide, by decide, st3, fun d hd0 hd1 _ => iteD (fun _ => ?_) (fun _ => ?_)⟩
    · refine ⟨s, P, xs, rows, rfl, st3, e3 _ _ hP, PrgL.mono e3 hL, hl, htr, fun v H4 e4 hv => ⟨v, rfl, st3.mono e4, hv⟩⟩
    · exact ⟨.ref P, rfl, st3, prgD rows, (hPd.mono e3).dp, hsm⟩
  rintro σ' H4 ⟨v, rfl, st4, d, hd, hsm⟩
  refine ⟨v, d, rfl, hd, (sm_asks hsm).1, fun H5 e5 => ?_⟩
  rw [sm_due hsm]
  have hd5 := Dp.mono e5 _ hd
  have st5 := st4.mono e5
  refine ⟨fun σ' H' => ∃ (w : V) (x5 : Option V), σ' = [some (.ref a), some (.ref s), some v, some (.bl (isProgD d)), some w, x5, none, none, none] ∧ StrmAt H' s ∧ Dp K H' v d ∧ Dp K H' w d, ?_, ?_⟩
  · cases hd5 with
    | non => exact ⟨false, rfl, _, none, rfl, st5, .non, .non⟩
    | bl b => exact ⟨false, rfl, _, none, rfl, st5, .bl b, .bl b⟩
    | int i => exact ⟨false, rfl, _, none, rfl, st5, .int i, .int i⟩
    | str x => exact ⟨false, rfl, _, none, rfl, st5, .str x, .str x⟩
    | tup h h2 => exact ⟨_, false, sqt_ty h, rfl, _, none, rfl, st5, .tup h h2, .tup h h2⟩
    | @lst q ys ds hx ha =>
      have hdl := (sm_list hsm).1
      have hyl := DpAll.len ha
      refine ⟨_, true, sql_ty hx, rfl, .inl ⟨⟨_, hx⟩, fun D nD => lc_list (K := K) (a := q) (xs := ys) (fun i H' => Ex H5 H' ∧ ∃ zs, H' D = some (.lst zs) ∧ Paired (CopyD K H5 H' D) zs (ds.take i)) ⟨Evl.Ex.new nD, [], upd_same, .nil⟩ (fun i H' _ e => Evl.ex_l e.1 hx) ?_ ?_⟩⟩
      · rintro i x H' hx' ⟨ex, zs, hD, hz⟩
        obtain ⟨e, he, hxe⟩ := DpAll.get ha hx'
        have zl := hz.length
        rw [List.length_take] at zl
        have zb : zs.length < sizeLine := by omega
        have same : CopyD K H5 H' D x e → Ex H5 (upd H' D (.lst (zs ++ [x]))) ∧ ∃ ys, (upd H' D (.lst (zs ++ [x]))) D = some (.lst ys) ∧ Paired (CopyD K H5 (upd H' D (.lst (zs ++ [x]))) D) ys (ds.take (i + 1)) := fun q => copy_step nD ex (fun _ _ _ h => h) hz he q
        cases hxe with
        | non => exact ⟨rfl, false, rfl, _, hD, zb, same (.inl .non)⟩
        | bl b => exact ⟨rfl, false, rfl, _, hD, zb, same (.inl (.bl b))⟩
        | int i => exact ⟨rfl, false, rfl, _, hD, zb, same (.inl (.int i))⟩
        | str x => exact ⟨rfl, false, rfl, _, hD, zb, same (.inl (.str x))⟩
        | tup h h2 => exact ⟨rfl, _, false, sqt_ty (Evl.ex_t ex h), rfl, _, hD, zb, same (.inl (.tup h h2))⟩
        | @lst q2 us es hu hus =>
          refine ⟨rfl, _, true, sql_ty (Evl.ex_l ex hu), rfl, _, .inl (Evl.ex_l ex hu), fun l nl => ?_⟩
          have nlD : D ≠ l := fun e => by rw [← e, hD] at nl; cases nl
          refine ⟨_, (Evl.Ex.new nl) _ _ hD, zb, copy_step nD (ex.trans (Evl.Ex.new nl)) (fun _ _ _ h => (Evl.Ex.new nl) _ _ h) hz he (.inr ⟨l, us, es, rfl, fun e => nlD e.symm, upd_same, hus, rfl⟩)⟩
      · rintro H6 ⟨ex, zs, hD, hz⟩
        rw [hyl, List.take_length] at hz
        exact ⟨_, _, rfl, st5.mono ex, .lst (Evl.ex_l ex hx) (DpAll.mono ex _ ha), .lst (.of hD) (copy_all ex hz)⟩
  rintro σ' H6 ⟨w, x5, rfl, st6, hd6, hw6⟩
  refine ⟨v, d, rfl, hd6, (sm_asks hsm).2, fun H7 e7 => ?_⟩
  have hd7 := Dp.mono e7 _ hd6
  have hw7 := Dp.mono e7 _ hw6
  have shp : SeqAt.shaped d = true := sm_shaped (by decide) hsm
  have st7 := st6.mono e7
  refine ⟨fun σ' H' => σ' = [some (.ref a), some (.ref s), some v, some (.bl (isProgD d)), some w, x5, some (.bl (isProgD d)), none, none] ∧ StrmAt H' s, ?_, ?_⟩
  · have ask := (sm_asks hsm).2
    have hd8 := hd7
    refine ⟨true, rfl, ?_⟩
    refine iteN (fun h => absurd rfl h) (fun _ => ?_)
    cases hd7 with
    | non =>
      cases hw7
      refine ⟨_, _, rfl, hd8, ask, fun H8 e8 => ?_⟩
      first
      | exact ⟨rfl, st7.mono e8⟩
      | (refine iteN (fun h => absurd rfl h) (fun _ => ?_)
         exact ⟨rfl, st7.mono e8⟩)
    | bl b =>
      cases hw7
      refine iteN (fun h => absurd rfl h) (fun _ => ?_)
      refine ⟨_, _, rfl, hd8, ask, fun H8 e8 => ?_⟩
      first
      | exact ⟨rfl, st7.mono e8⟩
      | (refine iteN (fun h => absurd rfl h) (fun _ => ?_)
         exact ⟨rfl, st7.mono e8⟩)
    | int b =>
      cases hw7
      refine iteN (fun h => absurd rfl h) (fun _ => ?_)
      refine ⟨_, _, rfl, hd8, ask, fun H8 e8 => ?_⟩
      first
      | exact ⟨rfl, st7.mono e8⟩
      | (refine iteN (fun h => absurd rfl h) (fun _ => ?_)
         exact ⟨rfl, st7.mono e8⟩)
    | str b =>
      cases hw7
      refine iteN (fun h => absurd rfl h) (fun _ => ?_)
      refine ⟨_, _, rfl, hd8, ask, fun H8 e8 => ?_⟩
      first
      | exact ⟨rfl, st7.mono e8⟩
      | (refine iteN (fun h => absurd rfl h) (fun _ => ?_)
         exact ⟨rfl, st7.mono e8⟩)
    | lst h1 h2 =>
      have hw8 := hw7
      cases hw7
      refine ⟨_, _, hd8, hw8, shp, shp, ?_⟩
      rw [SeqAt.eqv_refl _ (SeqAt.canLay_of_shaped shp)]
      refine ⟨_, _, rfl, hd8, ask, fun H8 e8 => ?_⟩
      first
      | exact ⟨rfl, st7.mono e8⟩
      | (refine iteN (fun h => absurd rfl h) (fun _ => ?_)
         exact ⟨rfl, st7.mono e8⟩)
    | tup h1 h2 =>
      have hw8 := hw7
      cases hw7
      refine ⟨_, _, hd8, hw8, shp, shp, ?_⟩
      rw [SeqAt.eqv_refl _ (SeqAt.canLay_of_shaped shp)]
      refine ⟨_, _, rfl, hd8, ask, fun H8 e8 => ?_⟩
      first
      | exact ⟨rfl, st7.mono e8⟩
      | (refine iteN (fun h => absurd rfl h) (fun _ => ?_)
         exact ⟨rfl, st7.mono e8⟩)
  clear hd hd5 hd6 hd7 hw6 hw7 st7 st6
  rintro σ' H8 ⟨rfl, st8⟩
  -- long programs
  refine ⟨s, _, rfl, by decide, by decide, st8, fun m hm0 hm1 _ => ?_⟩
  obtain ⟨m, rfl⟩ := Int.eq_ofNat_of_zero_le hm0
  refine ⟨by show 3 ≤ sizeLine; decide, fun t nt => ⟨by show 1 ≤ sizeLine; decide, fun q nq => ?_⟩⟩
  have x1 := Evl.Ex.new (o := .tup (Row.tail 0 0).vs) nt
  have x2 := Evl.Ex.new (o := .lst [.ref t]) nq
  have em : (599 + (m : Int)).toNat = 599 + m := by omega
  refine .inl ⟨q, 599 + (m : Int), [.ref t], rfl, rfl, upd_same, by omega, by omega, by rw [List.length_singleton, em]; omega, fun L nL => ?_⟩
  rw [em, flat_rep]
  have x3 := Evl.Ex.new (o := .lst (List.replicate (599 + m) (V.ref t))) nL
  have hh := (x2.trans x3) _ _ (upd_same (H := H8) (a := t) (o := .tup (Row.tail 0 0).vs))
  have hP3 : PrgAt K (upd (upd (upd H8 t (.tup (Row.tail 0 0).vs)) q (.lst [.ref t])) L (.lst (List.replicate (599 + m) (V.ref t)))) L (List.replicate (599 + m) (Row.tail 0 0)) := ⟨_, .of upd_same, paired_rep ⟨t, rfl, .of hh⟩ _⟩
  refine ⟨.ref L, prgD (List.replicate (599 + m) (Row.tail 0 0)), rfl, hP3.dp, ?_, fun H9 e9 => ?_⟩
  · refine prg_ask fun r hr t e => ?_
    rw [(List.mem_replicate.mp hr).2] at e
    cases e
  rw [tails_prog]
  refine iteN (fun h => ?_) (fun _ => ?_)
  · exact absurd (congrArg V.bl (le600 m)) h
  have st9 := st8.mono (x1.trans (x2.trans (x3.trans e9)))
  refine ⟨s, _, rfl, by decide, by decide, st9, fun g hg0 hg1 _ => iteD (fun _ => k _) (fun _ => ?_)⟩
  refine ⟨s, _, rfl, by decide, by decide, st9, fun n hn0 hn1 _ => ?_⟩
  obtain ⟨n, rfl⟩ := Int.eq_ofNat_of_zero_le hn0
  have two : (("10" : Str)).length = 2 := rfl
  have one : (("0" : Str)).length = 1 := rfl
  have en : (49999 + (n : Int)).toNat = 49999 + n := by omega
  have rl := repS_length ("10" : Str) (49999 + n)
  refine ⟨⟨by omega, by omega, by rw [two, en]; omega⟩, by rw [en, rl, two, one]; omega, ?_⟩
  rw [en, tens_str, ← numT_enc]
  have te : (numT (49999 + n)).enc.length = 2 * (49999 + n) + 1 := by rw [numT_enc, tens_len]
  refine ⟨by show 3 ≤ sizeLine; decide, fun t1 n1 => ⟨by show 3 ≤ sizeLine; decide, fun t2 n2 => ⟨by show 2 ≤ sizeLine; decide, fun L nL => ?_⟩⟩⟩
  have y1 := Evl.Ex.new (o := .tup (Row.set 0 (numT (49999 + n))).vs) n1
  have y2 := Evl.Ex.new (o := .tup (Row.set 1 (numT (49999 + n))).vs) n2
  have y3 := Evl.Ex.new (o := .lst [.ref t1, .ref t2]) nL
  have g1 := (y2.trans y3) _ _ upd_same
  have g2 := y3 _ _ upd_same
  have hPt : PrgAt K _ L [Row.set 0 (numT (49999 + n)), Row.set 1 (numT (49999 + n))] := ⟨_, .of upd_same, .cons ⟨t1, rfl, .of g1⟩ (.cons ⟨t2, rfl, .of g2⟩ .nil)⟩
  refine ⟨.ref L, prgD [Row.set 0 (numT (49999 + n)), Row.set 1 (numT (49999 + n))], rfl, hPt.dp, ?_, fun H10 e10 => ?_⟩
  · refine prg_ask fun r hr t e => ?_
    simp only [List.mem_cons, List.not_mem_nil, or_false] at hr
    rcases hr with rfl | rfl <;> (cases e; omega)
  rw [two_prog (by omega)]
  refine ⟨by rw [S_len]; omega, ?_⟩
  have fin : V.bl (decide (2 * (2 * (49999 + n) + 1) ≤ 200000)) = V.bl (decide ((2 : Int) * (((S (numT (49999 + n)).enc).length : Nat) : Int) ≤ 200000)) := by
    refine congrArg V.bl ?_
    rw [S_len, te]
    by_cases q : n ≤ 0
    · rw [decide_eq_true (by omega), decide_eq_true (by omega)]
    · rw [decide_eq_false (by omega), decide_eq_false (by omega)]
  exact ⟨.inl (by decide), okB fin (k _)⟩
end
theorem all_ok {P : Program} {w : World} {K : PySem.W.Frag} {mg : Str → Option Value} {base : Heap} {f : Addr} {fd : FuncData} (T : Txt K mg w) (F : Fun K "law" "law" s_L_law f fd) : FnOk P w K mg base CX0 4 f fd ["_law_script"] (spLaw K mg) := by
  have c_programs_is_whole := ok_programs_is_whole (P := P) (w := w) (base := base) T 
  have c_trees_is_tree := ok_trees_is_tree (P := P) (w := w) (base := base) T 
  have c_programs_is_instruction := ok_programs_is_instruction (P := P) (w := w) (base := base) T c_programs_is_whole c_trees_is_tree
  have c_programs_is_program := ok_programs_is_program (P := P) (w := w) (base := base) T c_programs_is_instruction
  have c_L_draw := ok_L_draw (P := P) (w := w) (base := base) T 
  have c_L_is_whole := ok_L_is_whole (P := P) (w := w) (base := base) T 
  have c_L_is_tree := ok_L_is_tree (P := P) (w := w) (base := base) T 
  have c_L_is_row := ok_L_is_row (P := P) (w := w) (base := base) T c_L_is_whole c_L_is_tree
  have c_L_due := ok_L_due (P := P) (w := w) (base := base) T c_L_is_row
  have c_L_changed := ok_L_changed (P := P) (w := w) (base := base) T c_L_draw
  have c_L_tree := ok_L_tree (P := P) (w := w) (base := base) T c_L_draw
  have c_L_program := ok_L_program (P := P) (w := w) (base := base) T c_L_tree c_L_draw
  have c_L_stream := ok_L_stream (P := P) (w := w) (base := base) T 
  exact ok_L_law T F c_programs_is_program c_L_draw c_L_due c_L_changed c_L_program c_L_stream
theorem fin_mk {P : Program} {w : World} {K : PySem.W.Frag} {h : Heap} {mg : Str → Option Value} {fa : Addr} (X : K.In h) (G : h.Ns mainGlobals mg) (hfa : mg "law" = some (.ref fa))
    {tk1 : Tok} (z1 : PySem.W.nsIn K mainGlobals "MOST_CODE" = some (some (.int 600 tk1)))
    {tk2 : Tok} (z2 : PySem.W.nsIn K mainGlobals "MOST_TREE" = some (some (.int 200000 tk2)))
    {d3 : Addr} {es3 : Array DictEntry} {nn3 : Nat} {td3_0 td3_1 td3_2 td3_3 td3_4 td3_5 : Tok} (z3 : PySem.W.nsIn K mainGlobals "PARTS" = some (some (.ref d3))) (y3 : K.lookup d3 = some ⟨.type "dict", none, .dict es3 nn3, #[]⟩) (u3 : PySem.W.KeysLit w.params es3.toList) (v3 : (d3 == sysModules) = false)
    (o3_0 : PySem.W.nsIn K d3 "set" = some (some (.int 3 td3_0)))
    (o3_1 : PySem.W.nsIn K d3 "move" = some (some (.int 3 td3_1)))
    (o3_2 : PySem.W.nsIn K d3 "cons" = some (some (.int 4 td3_2)))
    (o3_3 : PySem.W.nsIn K d3 "head" = some (some (.int 3 td3_3)))
    (o3_4 : PySem.W.nsIn K d3 "tail" = some (some (.int 3 td3_4)))
    (o3_5 : PySem.W.nsIn K d3 "jump" = some (some (.int 3 td3_5)))
    {tk4 : Tok} (z4 : PySem.W.nsIn K mainGlobals "REGISTERS" = some (some (.int 20 tk4)))
    {a5 : Addr} {tq5_0 tq5_1 tq5_2 tq5_3 tq5_4 tq5_5 : Tok} {dd5 : Option Addr} {nn5 : Nat} {sl5 : Array (Option Value)} (z5 : PySem.W.nsIn K mainGlobals "WORDS" = some (some (.ref a5))) (y5 : K.lookup a5 = some ⟨.type "tuple", dd5, .seq #[.str "set" tq5_0, .str "move" tq5_1, .str "cons" tq5_2, .str "head" tq5_3, .str "tail" tq5_4, .str "jump" tq5_5] nn5, sl5⟩)
    (z6 : PySem.W.nsIn K mainGlobals "abs" = some none)
    (z7 : PySem.W.nsIn K mainGlobals "all" = some none)
    (z8 : PySem.W.nsIn K mainGlobals "bool" = some none)
    (z9 : PySem.W.nsIn K mainGlobals "enumerate" = some none)
    (z10 : PySem.W.nsIn K mainGlobals "int" = some none)
    (z11 : PySem.W.nsIn K mainGlobals "isinstance" = some none)
    (z12 : PySem.W.nsIn K mainGlobals "len" = some none)
    (z13 : PySem.W.nsIn K mainGlobals "list" = some none)
    (z14 : PySem.W.nsIn K mainGlobals "range" = some none)
    (z15 : PySem.W.nsIn K mainGlobals "str" = some none)
    (z16 : PySem.W.nsIn K mainGlobals "sum" = some none)
    (z17 : PySem.W.nsIn K mainGlobals "tuple" = some none)
    {f18 : Addr} {od18 an18 : Option Addr} {sl18 : Array (Option Value)} {oc18 kV18 dc18 pm18 cd18 ct18 : Value}
    (a18 : PySem.W.nsIn K mainGlobals "is_whole" = some (some (.ref f18))) (l18 : K.lookup f18 = some ⟨oc18, od18, .func (PySem.W.fnOf "is_whole" "is_whole" (defArgs s_programs_is_whole) (defBody s_programs_is_whole) (defScope s_programs_is_whole) .none kV18 dc18 pm18 an18 cd18 ct18), sl18⟩) (c18 : PySem.W.codeIn K cd18 "is_whole" = true) (k18 : PySem.W.keepIn K (.ref f18) = true)
    {f19 : Addr} {od19 an19 : Option Addr} {sl19 : Array (Option Value)} {oc19 kV19 dc19 pm19 cd19 ct19 : Value}
    (a19 : PySem.W.nsIn K mainGlobals "is_tree" = some (some (.ref f19))) (l19 : K.lookup f19 = some ⟨oc19, od19, .func (PySem.W.fnOf "is_tree" "is_tree" (defArgs s_trees_is_tree) (defBody s_trees_is_tree) (defScope s_trees_is_tree) .none kV19 dc19 pm19 an19 cd19 ct19), sl19⟩) (c19 : PySem.W.codeIn K cd19 "is_tree" = true) (k19 : PySem.W.keepIn K (.ref f19) = true)
    {f20 : Addr} {od20 an20 : Option Addr} {sl20 : Array (Option Value)} {oc20 kV20 dc20 pm20 cd20 ct20 : Value}
    (a20 : PySem.W.nsIn K mainGlobals "is_instruction" = some (some (.ref f20))) (l20 : K.lookup f20 = some ⟨oc20, od20, .func (PySem.W.fnOf "is_instruction" "is_instruction" (defArgs s_programs_is_instruction) (defBody s_programs_is_instruction) (defScope s_programs_is_instruction) .none kV20 dc20 pm20 an20 cd20 ct20), sl20⟩) (c20 : PySem.W.codeIn K cd20 "is_instruction" = true) (k20 : PySem.W.keepIn K (.ref f20) = true)
    {f21 : Addr} {od21 an21 : Option Addr} {sl21 : Array (Option Value)} {oc21 kV21 dc21 pm21 cd21 ct21 : Value}
    (a21 : PySem.W.nsIn K mainGlobals "is_program" = some (some (.ref f21))) (l21 : K.lookup f21 = some ⟨oc21, od21, .func (PySem.W.fnOf "is_program" "is_program" (defArgs s_programs_is_program) (defBody s_programs_is_program) (defScope s_programs_is_program) .none kV21 dc21 pm21 an21 cd21 ct21), sl21⟩) (c21 : PySem.W.codeIn K cd21 "is_program" = true) (k21 : PySem.W.keepIn K (.ref f21) = true)
    {f22 : Addr} {od22 an22 : Option Addr} {sl22 : Array (Option Value)} {oc22 kV22 dc22 pm22 cd22 ct22 : Value}
    (a22 : PySem.W.nsIn K mainGlobals "_law_draw" = some (some (.ref f22))) (l22 : K.lookup f22 = some ⟨oc22, od22, .func (PySem.W.fnOf "_law_draw" "_law_draw" (defArgs s_L_draw) (defBody s_L_draw) (defScope s_L_draw) .none kV22 dc22 pm22 an22 cd22 ct22), sl22⟩) (c22 : PySem.W.codeIn K cd22 "_law_draw" = true) (k22 : PySem.W.keepIn K (.ref f22) = true)
    {f23 : Addr} {od23 an23 : Option Addr} {sl23 : Array (Option Value)} {oc23 kV23 dc23 pm23 cd23 ct23 : Value}
    (a23 : PySem.W.nsIn K mainGlobals "_law_is_whole" = some (some (.ref f23))) (l23 : K.lookup f23 = some ⟨oc23, od23, .func (PySem.W.fnOf "_law_is_whole" "_law_is_whole" (defArgs s_L_is_whole) (defBody s_L_is_whole) (defScope s_L_is_whole) .none kV23 dc23 pm23 an23 cd23 ct23), sl23⟩) (c23 : PySem.W.codeIn K cd23 "_law_is_whole" = true) (k23 : PySem.W.keepIn K (.ref f23) = true)
    {f24 : Addr} {od24 an24 : Option Addr} {sl24 : Array (Option Value)} {oc24 kV24 dc24 pm24 cd24 ct24 : Value}
    (a24 : PySem.W.nsIn K mainGlobals "_law_is_tree" = some (some (.ref f24))) (l24 : K.lookup f24 = some ⟨oc24, od24, .func (PySem.W.fnOf "_law_is_tree" "_law_is_tree" (defArgs s_L_is_tree) (defBody s_L_is_tree) (defScope s_L_is_tree) .none kV24 dc24 pm24 an24 cd24 ct24), sl24⟩) (c24 : PySem.W.codeIn K cd24 "_law_is_tree" = true) (k24 : PySem.W.keepIn K (.ref f24) = true)
    {f25 : Addr} {od25 an25 : Option Addr} {sl25 : Array (Option Value)} {oc25 kV25 dc25 pm25 cd25 ct25 : Value}
    (a25 : PySem.W.nsIn K mainGlobals "_law_is_row" = some (some (.ref f25))) (l25 : K.lookup f25 = some ⟨oc25, od25, .func (PySem.W.fnOf "_law_is_row" "_law_is_row" (defArgs s_L_is_row) (defBody s_L_is_row) (defScope s_L_is_row) .none kV25 dc25 pm25 an25 cd25 ct25), sl25⟩) (c25 : PySem.W.codeIn K cd25 "_law_is_row" = true) (k25 : PySem.W.keepIn K (.ref f25) = true)
    {f26 : Addr} {od26 an26 : Option Addr} {sl26 : Array (Option Value)} {oc26 kV26 dc26 pm26 cd26 ct26 : Value}
    (a26 : PySem.W.nsIn K mainGlobals "_law_due" = some (some (.ref f26))) (l26 : K.lookup f26 = some ⟨oc26, od26, .func (PySem.W.fnOf "_law_due" "_law_due" (defArgs s_L_due) (defBody s_L_due) (defScope s_L_due) .none kV26 dc26 pm26 an26 cd26 ct26), sl26⟩) (c26 : PySem.W.codeIn K cd26 "_law_due" = true) (k26 : PySem.W.keepIn K (.ref f26) = true)
    {f27 : Addr} {od27 an27 : Option Addr} {sl27 : Array (Option Value)} {oc27 kV27 dc27 pm27 cd27 ct27 : Value}
    (a27 : PySem.W.nsIn K mainGlobals "_law_changed" = some (some (.ref f27))) (l27 : K.lookup f27 = some ⟨oc27, od27, .func (PySem.W.fnOf "_law_changed" "_law_changed" (defArgs s_L_changed) (defBody s_L_changed) (defScope s_L_changed) .none kV27 dc27 pm27 an27 cd27 ct27), sl27⟩) (c27 : PySem.W.codeIn K cd27 "_law_changed" = true) (k27 : PySem.W.keepIn K (.ref f27) = true)
    {f28 : Addr} {od28 an28 : Option Addr} {sl28 : Array (Option Value)} {oc28 kV28 dc28 pm28 cd28 ct28 : Value}
    (a28 : PySem.W.nsIn K mainGlobals "_law_tree" = some (some (.ref f28))) (l28 : K.lookup f28 = some ⟨oc28, od28, .func (PySem.W.fnOf "_law_tree" "_law_tree" (defArgs s_L_tree) (defBody s_L_tree) (defScope s_L_tree) .none kV28 dc28 pm28 an28 cd28 ct28), sl28⟩) (c28 : PySem.W.codeIn K cd28 "_law_tree" = true) (k28 : PySem.W.keepIn K (.ref f28) = true)
    {f29 : Addr} {od29 an29 : Option Addr} {sl29 : Array (Option Value)} {oc29 kV29 dc29 pm29 cd29 ct29 : Value}
    (a29 : PySem.W.nsIn K mainGlobals "_law_program" = some (some (.ref f29))) (l29 : K.lookup f29 = some ⟨oc29, od29, .func (PySem.W.fnOf "_law_program" "_law_program" (defArgs s_L_program) (defBody s_L_program) (defScope s_L_program) .none kV29 dc29 pm29 an29 cd29 ct29), sl29⟩) (c29 : PySem.W.codeIn K cd29 "_law_program" = true) (k29 : PySem.W.keepIn K (.ref f29) = true)
    {f30 : Addr} {od30 an30 : Option Addr} {sl30 : Array (Option Value)} {oc30 kV30 dc30 pm30 cd30 ct30 : Value}
    (a30 : PySem.W.nsIn K mainGlobals "_law_stream" = some (some (.ref f30))) (l30 : K.lookup f30 = some ⟨oc30, od30, .func (PySem.W.fnOf "_law_stream" "_law_stream" (defArgs s_L_stream) (defBody s_L_stream) (defScope s_L_stream) .none kV30 dc30 pm30 an30 cd30 ct30), sl30⟩) (c30 : PySem.W.codeIn K cd30 "_law_stream" = true) (k30 : PySem.W.keepIn K (.ref f30) = true)
    {f0 : Addr} {od0 an0 : Option Addr} {sl0 : Array (Option Value)} {oc0 kV0 dc0 pm0 cd0 ct0 : Value}
    (a0 : PySem.W.nsIn K mainGlobals "law" = some (some (.ref f0))) (l0 : K.lookup f0 = some ⟨oc0, od0, .func (PySem.W.fnOf "law" "law" (defArgs s_L_law) (defBody s_L_law) (defScope s_L_law) .none kV0 dc0 pm0 an0 cd0 ct0), sl0⟩) (c0 : PySem.W.codeIn K cd0 "law" = true) (k0 : PySem.W.keepIn K (.ref f0) = true)
    : ∃ fd : FuncData, (∀ (s : Shared) (u : Value), BindsTo s fd ⟨[u], []⟩ [("_law_script", u)]) ∧ ∀ base : Heap, K.In base → base.Ns mainGlobals mg → FnOk P w K mg base CX0 4 fa fd ["_law_script"] (spLaw K mg) := by
  have e := hfa.symm.trans (PySem.W.mg_of X G a0)
  cases e
  exact ⟨PySem.W.fnOf "law" "law" (defArgs s_L_law) (defBody s_L_law) (defScope s_L_law) .none kV0 dc0 pm0 an0 cd0 ct0, fun s u => .of_eq rfl, fun base _ _ => all_ok (txt_mk X G z1 z2 z3 y3 u3 v3 o3_0 o3_1 o3_2 o3_3 o3_4 o3_5 z4 z5 y5 z6 z7 z8 z9 z10 z11 z12 z13 z14 z15 z16 z17 a18 l18 c18 k18 a19 l19 c19 k19 a20 l20 c20 k20 a21 l21 c21 k21 a22 l22 c22 k22 a23 l23 c23 k23 a24 l24 c24 k24 a25 l25 c25 k25 a26 l26 c26 k26 a27 l27 c27 k27 a28 l28 c28 k28 a29 l29 c29 k29 a30 l30 c30 k30) (L2.fun_mk l0 c0 k0)⟩
end NV
open PySem PySem.W PyProof.Rows in
set_option maxRecDepth 100000 in
set_option maxHeartbeats 0 in
theorem PySem.Challenge.cw_narcissus_k06_is_program_holds : PySem.Challenge.rw_narcissus_k06_is_program.Holds := by
  w_on; o_law; k_head; (case hw => w_witness2)
  k_fill
  refine NV.walk_law (l := PySem.Challenge.rw_narcissus_k06_is_program) (k := 4) rfl rfl (by decide) (fun w h Y => PySem.W.kIn_of Y) ?F
  case F =>
    intro w mg fa h KX G hmg
    refine' NV.fin_mk KX G hmg ?z1 ?z2 ?z3 ?y3 ?u3 ?v3 ?o3_0 ?o3_1 ?o3_2 ?o3_3 ?o3_4 ?o3_5 ?z4 ?z5 ?y5 ?z6 ?z7 ?z8 ?z9 ?z10 ?z11 ?z12 ?z13 ?z14 ?z15 ?z16 ?z17 ?a18 ?l18 ?c18 ?k18 ?a19 ?l19 ?c19 ?k19 ?a20 ?l20 ?c20 ?k20 ?a21 ?l21 ?c21 ?k21 ?a22 ?l22 ?c22 ?k22 ?a23 ?l23 ?c23 ?k23 ?a24 ?l24 ?c24 ?k24 ?a25 ?l25 ?c25 ?k25 ?a26 ?l26 ?c26 ?k26 ?a27 ?l27 ?c27 ?k27 ?a28 ?l28 ?c28 ?k28 ?a29 ?l29 ?c29 ?k29 ?a30 ?l30 ?c30 ?k30 ?a0 ?l0 ?c0 ?k0
    (case z1 => k_is)
    (case z2 => k_is)
    (case z3 => k_is)
    (case y3 => k_is)
    (case u3 => exact ⟨⟨_, _, rfl, rfl⟩, ⟨_, _, rfl, rfl⟩, ⟨_, _, rfl, rfl⟩, ⟨_, _, rfl, rfl⟩, ⟨_, _, rfl, rfl⟩, ⟨_, _, rfl, rfl⟩, True.intro⟩)
    (case v3 => first | rfl | decide)
    (case o3_0 => k_is)
    (case o3_1 => k_is)
    (case o3_2 => k_is)
    (case o3_3 => k_is)
    (case o3_4 => k_is)
    (case o3_5 => k_is)
    (case z4 => k_is)
    (case z5 => k_is)
    (case y5 => k_is)
    (case z6 => k_is)
    (case z7 => k_is)
    (case z8 => k_is)
    (case z9 => k_is)
    (case z10 => k_is)
    (case z11 => k_is)
    (case z12 => k_is)
    (case z13 => k_is)
    (case z14 => k_is)
    (case z15 => k_is)
    (case z16 => k_is)
    (case z17 => k_is)
    (case a18 => k_is)
    (case l18 => k_is)
    (case c18 => k_is)
    (case k18 => k_is)
    (case a19 => k_is)
    (case l19 => k_is)
    (case c19 => k_is)
    (case k19 => k_is)
    (case a20 => k_is)
    (case l20 => k_is)
    (case c20 => k_is)
    (case k20 => k_is)
    (case a21 => k_is)
    (case l21 => k_is)
    (case c21 => k_is)
    (case k21 => k_is)
    (case a22 => k_is)
    (case l22 => k_is)
    (case c22 => k_is)
    (case k22 => k_is)
    (case a23 => k_is)
    (case l23 => k_is)
    (case c23 => k_is)
    (case k23 => k_is)
    (case a24 => k_is)
    (case l24 => k_is)
    (case c24 => k_is)
    (case k24 => k_is)
    (case a25 => k_is)
    (case l25 => k_is)
    (case c25 => k_is)
    (case k25 => k_is)
    (case a26 => k_is)
    (case l26 => k_is)
    (case c26 => k_is)
    (case k26 => k_is)
    (case a27 => k_is)
    (case l27 => k_is)
    (case c27 => k_is)
    (case k27 => k_is)
    (case a28 => k_is)
    (case l28 => k_is)
    (case c28 => k_is)
    (case k28 => k_is)
    (case a29 => k_is)
    (case l29 => k_is)
    (case c29 => k_is)
    (case k29 => k_is)
    (case a30 => k_is)
    (case l30 => k_is)
    (case c30 => k_is)
    (case k30 => k_is)
    (case a0 => k_is)
    (case l0 => k_is)
    (case c0 => k_is)
    (case k0 => k_is)
#print axioms PySem.Challenge.cw_narcissus_k06_is_program_holds

import PyProof.Rows.All
import Wide.All
import OpenK.AllK
import Wide.FinOn
import HandS.ForMost
import HandS.ForExc
import HandS.TupAny
import HandS.TupMul
import HandS.IsInst
import HandS.Style
import HandS.Rev
import HandS.RevRange
import HandS.Evl
import HandS.ExcIs
import HandS.More
import HandS.Zip
import PyProof.StrOps2
import HandS.RevTup
import HandS.TryMany
import HandS.Flt
import HandS.Comp
import HandS.Exc
import HandS.Strs
import HandS.StrMore
import PyProof.StrLawsIn
import HandS.Codes
import HandS.RaiseMore
import KE.IntTextLaws
import PySem.Challenge.RW_narcissus_k10_texts
set_option Elab.async false
set_option linter.all false
set_option maxRecDepth 100000
set_option maxHeartbeats 4000000
set_option Elab.async false
set_option linter.all false
set_option maxRecDepth 100000
set_option maxHeartbeats 4000000
/-! # universal operators: readings that follow the values -/
namespace NV
open PySem PySem.Spec PyProof.Rows L2
section
variable {X : Cx}
theorem PEwk {e : Expr} {t t' : TE} (h : PE X e t) (w : ∀ σ H Q, t' σ H Q → t σ H Q) : PE X e t' :=
  ⟨fun p s σ H Q I q => h.run p s σ H Q I (w _ _ _ q)⟩
theorem PTwk {e : Expr} {t t' : TT} (h : PT X e t) (w : ∀ σ H Q, t' σ H Q → t σ H Q) : PT X e t' :=
  ⟨fun p s σ H Q I q => h.run p s σ H Q I (w _ _ _ q)⟩
theorem OpWk {f : Value → Value → Sem Value} {r r' : R2} (h : OpR X f r) (w : ∀ x y H Q, r' x y H Q → r x y H Q) : OpR X f r' :=
  fun pins s σ H x y v u Q I rx ry q => h pins s σ H x y v u Q I rx ry (w _ _ _ _ q)
theorem CallWk {f : Value} {r r' : List V → Hp → VK → Prop} (h : CallR X f r) (w : ∀ xs H Q, r' xs H Q → r xs H Q) : CallR X f r' :=
  fun pins s σ H xs us Q I r q => h pins s σ H xs us Q I r (w _ _ _ q)
/-! ### a name -/
def mV (i : Nat) : TE := fun σ H Q => match σ[i]? with
  | some (some v) => Q v H
  | _ => False
theorem nv (i : Nat) {x : Str} {pos : Pos} (hN : X.N[i]? = some x := by rfl) (hv : Vis X.env.scope x := by first | exact Or.inl rfl | exact Or.inr (Or.inl rfl) | exact Or.inr (Or.inr rfl)) (hd : (x == ("__debug__" : Str)) = false := by decide)
    (hcd : (x == ("__classdict__" : Str)) = false := by decide) : PE X (.Name x pos) (mV i) := PEwk (pe_var hN hv hd hcd) fun σ H Q h => by
  unfold mV at h
  split at h
  · exact ⟨_, by assumption, h⟩
  · exact h.elim
/-! ### a list or a tuple that is read -/
def SqA (K : PySem.W.Frag) (H : Hp) (a : Addr) (xs : List V) : Prop := SqL K H a xs ∨ SqT K H a xs
theorem SqA.l {K : PySem.W.Frag} {H : Hp} {a : Addr} {xs : List V} (h : H a = some (.lst xs)) : SqA K H a xs := .inl (.of h)
theorem SqA.t {K : PySem.W.Frag} {H : Hp} {a : Addr} {xs : List V} (h : H a = some (.tup xs)) : SqA K H a xs := .inr (.of h)
/-! ### + - * // % -/
def rAddU (K : PySem.W.Frag) : R2 := fun x y H Q => match x, y with
  | .int i, .int j => Q (.int (i + j)) H
  | .int i, .bl k => Q (.int (i + b2i k)) H
  | .str a, .str b => a.length + b.length ≤ sizeLine ∧ Q (.str (a ++ b)) H
  | .ref a, .ref b => rCat (.ref a) (.ref b) H Q ∨ rCatA K (.ref a) (.ref b) H Q
  | _, _ => False
theorem oAdd {K : PySem.W.Frag} (hK : X.K = K := by rfl) : OpR X (binaryOp .Add) (rAddU K) := fun pins s σ H x y v u Q I rx ry h => by
  subst hK
  cases x <;> cases y <;> first
    | exact op_add pins s σ H _ _ v u Q I rx ry ⟨_, _, rfl, rfl, h⟩
    | exact op_add_ib pins s σ H _ _ v u Q I rx ry ⟨_, _, rfl, rfl, h⟩
    | exact op_add_str pins s σ H _ _ v u Q I rx ry ⟨_, _, rfl, rfl, h.1, h.2⟩
    | exact h.elim (fun h => op_cat pins s σ H _ _ v u Q I rx ry h) (fun h => op_catA pins s σ H _ _ v u Q I rx ry h)
    | exact False.elim h
def rSubU : R2 := fun x y H Q => match x, y with
  | .int i, .int j => Q (.int (i - j)) H
  | _, _ => False
theorem oSub : OpR X (binaryOp .Sub) rSubU := fun pins s σ H x y v u Q I rx ry h => by
  cases x <;> cases y <;> first
    | exact op_sub pins s σ H _ _ v u Q I rx ry ⟨_, _, rfl, rfl, h⟩
    | exact False.elim h
/-- the text z, n times -/
def repS (z : Str) (n : Nat) : Str := ⟨(List.replicate n z.cps.toList).flatten.toArray⟩
theorem foldl_repS (z : List Nat) : ∀ (n : Nat) (acc : List Nat), (List.replicate n z.toArray).foldl (fun x y => x ++ y) acc.toArray = (acc ++ (List.replicate n z).flatten).toArray := by
  intro n
  induction n with
  | zero => intro acc; simp
  | succ n ih =>
    intro acc
    rw [List.replicate_succ, List.foldl_cons, List.append_toArray, ih, List.replicate_succ, List.flatten_cons, List.append_assoc]
def rMulU (K : PySem.W.Frag) : R2 := fun x y H Q => match x, y with
  | .int i, .int j => CMul i j ∧ Q (.int (i * j)) H
  | .str a, .int n => (-(2 ^ 63) < n ∧ n < 2 ^ 62 ∧ a.length * n.toNat ≤ 10000000) ∧ Q (.str (repS a n.toNat)) H
  | .ref a, .int n => rRep (.ref a) (.int n) H Q ∨ rRepT K (.ref a) (.int n) H Q
  | _, _ => False
theorem repS_one (z : Str) : repS z 1 = z := by
  obtain ⟨⟨l⟩⟩ := z
  unfold repS
  rw [List.replicate_one, List.flatten_singleton]
theorem repS_nil (n : Nat) (z : Str) (h : z.length = 0) : repS z n = z := by
  obtain ⟨⟨l⟩⟩ := z
  have e : l = [] := List.length_eq_zero_iff.mp h
  subst e
  unfold repS
  rw [List.flatten_replicate_nil]
theorem repS_length (z : Str) (n : Nat) : (repS z n).length = z.length * n := by
  obtain ⟨⟨l⟩⟩ := z
  show (List.replicate n l).flatten.toArray.size = l.length * n
  rw [List.size_toArray, List.length_flatten, List.map_replicate, List.sum_replicate_nat, Nat.mul_comm]
theorem oMul {K : PySem.W.Frag} (hK : X.K = K := by rfl) : OpR X (binaryOp .Mult) (rMulU K) := fun pins s σ H x y v u Q I rx ry h => by
  subst hK
  cases x <;> cases y <;> first
    | exact op_mul pins s σ H _ _ v u Q I rx ry ⟨_, _, rfl, rfl, h.1, h.2⟩
    | exact h.elim (fun h => op_rep pins s σ H _ _ v u Q I rx ry h) (fun h => op_repT pins s σ H _ _ v u Q I rx ry h)
    | exact False.elim h
    | skip
  rename_i a n
  obtain ⟨⟨h1, h2, h3⟩, q⟩ := h
  obtain ⟨t, rfl⟩ := rx
  obtain ⟨t', rfl⟩ := ry
  have hz : sizeLine = 16777216 := sizeLine_eq
  by_cases hn : n < 1
  · have e : n.toNat = 0 := by omega
    rw [e] at q
    exact PySem.P.mul_str_none hn (by omega) ⟨.str (repS a 0), H, I.tok _, ⟨_, rfl⟩, q⟩
  · refine PySem.P.mul_str (by rw [decide_eq_false (by omega), decide_eq_false (by omega)]; rfl) (fun _ hc => ?_) (fun _ _ => ?_) ?_
    · have hl : 0 < a.length := by
        rw [Bool.or_eq_false_iff] at hc
        have := hc.2
        rw [beq_eq_false_iff_ne] at this
        omega
      intro hgt
      have hn0 : (0 : Int) < n := by omega
      have h5 : (a.length : Int) * n ≤ 10000000 := by
        have e : ((a.length * n.toNat : Nat) : Int) = (a.length : Int) * n := by
          rw [Int.natCast_mul, Int.toNat_of_nonneg (by omega)]
        rw [← e]
        exact Int.ofNat_le.mpr h3
      have h6 : (2 ^ 63 - 1) / n * n ≤ 2 ^ 63 - 1 := Int.ediv_mul_le _ (by omega)
      have h7 : (2 ^ 63 - 1) / n < (a.length : Int) := hgt
      have h9 : n ≤ 10000000 := by
        have : (1 : Int) * n ≤ (a.length : Int) * n := Int.mul_le_mul_of_nonneg_right (by omega) (by omega)
        omega
      have h10 : (a.length : Int) ≤ 10000000 := by
        have : (a.length : Int) * 1 ≤ (a.length : Int) * n := Int.mul_le_mul_of_nonneg_left (by omega) (by omega)
        omega
      have h11 : (2 ^ 63 - 1) / n ≥ 10000000 := by
        refine Int.le_ediv_of_mul_le hn0 ?_
        have : 10000000 * n ≤ 10000000 * 10000000 := Int.mul_le_mul_of_nonneg_left h9 (by omega)
        omega
      omega
    · show decide (a.length * n.toNat > sizeLine) = false
      exact decide_eq_false (by omega)
    · rw [if_neg hn]
      by_cases hc : (n == 1 || a.length == 0) = true
      · rw [if_pos hc]
        have e : repS a n.toNat = a := by
          rw [Bool.or_eq_true] at hc
          rcases hc with hc | hc
          · have : n = 1 := by simpa using hc
            rw [this]
            exact repS_one a
          · exact repS_nil _ _ (by simpa using hc)
        rw [e] at q
        exact ⟨.str a, H, I, ⟨_, rfl⟩, q⟩
      · rw [if_neg hc]
        have e : (⟨(List.replicate n.toNat a.cps).foldl (· ++ ·) #[]⟩ : Str) = repS a n.toNat := by
          have := foldl_repS a.cps.toList n.toNat []
          rw [List.nil_append] at this
          unfold repS
          rw [← this]
        rw [e]
        exact ⟨by rw [repS_length]; omega, .str (repS a n.toNat), H, I.tok _, ⟨_, rfl⟩, q⟩
def rDivU : R2 := fun x y H Q => match x, y with
  | .int i, .int j => CDiv i j ∧ Q (.int (i / j)) H
  | _, _ => False
theorem oDiv : OpR X (binaryOp .FloorDiv) rDivU := fun pins s σ H x y v u Q I rx ry h => by
  cases x <;> cases y <;> first
    | exact op_fdiv pins s σ H _ _ v u Q I rx ry ⟨_, _, rfl, rfl, h.1, h.2⟩
    | exact False.elim h
def rModU : R2 := fun x y H Q => match x, y with
  | .int i, .int j => 0 < j ∧ Q (.int (i % j)) H
  | _, _ => False
theorem oMod : OpR X (binaryOp .Mod) rModU := fun pins s σ H x y v u Q I rx ry h => by
  cases x <;> cases y <;> first
    | exact op_mod pins s σ H _ _ v u Q I rx ry ⟨_, _, rfl, rfl, h.1, h.2⟩
    | exact False.elim h
/-! ### comparisons -/
def rEqU (K : PySem.W.Frag) : R2 := fun x y H Q => match scal x y with
  | true => Q (.bl (decide (x = y))) H
  | false => rEqD K x y H Q
theorem oEq {K : PySem.W.Frag} (hu : X.A.units + 64 < cLine) (hK : X.K = K := by rfl) : OpR X (compareOp .Eq) (rEqU K) := fun pins s σ H x y v u Q I rx ry h => by
  subst hK
  unfold rEqU at h
  cases e : scal x y with
  | true => rw [e] at h; exact op_eq pins s σ H _ _ v u Q I rx ry ⟨e, h⟩
  | false => rw [e] at h; exact op_eqD hu pins s σ H _ _ v u Q I rx ry h
def rNeU (K : PySem.W.Frag) : R2 := fun x y H Q => match scal x y with
  | true => Q (.bl (!decide (x = y))) H
  | false => rNeD K x y H Q
theorem oNe {K : PySem.W.Frag} (hu : X.A.units + 64 < cLine) (hK : X.K = K := by rfl) : OpR X (compareOp .NotEq) (rNeU K) := fun pins s σ H x y v u Q I rx ry h => by
  subst hK
  unfold rNeU at h
  cases e : scal x y with
  | true => rw [e] at h; exact op_ne pins s σ H _ _ v u Q I rx ry ⟨e, h⟩
  | false => rw [e] at h; exact op_neD hu pins s σ H _ _ v u Q I rx ry h
def rCI (p : Int → Int → Bool) : R2 := fun x y H Q => match x, y with
  | .int i, .int j => Q (.bl (p i j)) H
  | _, _ => False
theorem oLt : OpR X (compareOp .Lt) (rCI fun i j => decide (i < j)) := fun pins s σ H x y v u Q I rx ry h => by
  cases x <;> cases y <;> first
    | exact op_lt pins s σ H _ _ v u Q I rx ry ⟨_, _, rfl, rfl, h⟩
    | exact False.elim h
theorem oLe : OpR X (compareOp .LtE) (rCI fun i j => decide (i ≤ j)) := fun pins s σ H x y v u Q I rx ry h => by
  cases x <;> cases y <;> first
    | exact op_le pins s σ H _ _ v u Q I rx ry ⟨_, _, rfl, rfl, h⟩
    | exact False.elim h
theorem oGt : OpR X (compareOp .Gt) (rCI fun i j => decide (j < i)) := fun pins s σ H x y v u Q I rx ry h => by
  cases x <;> cases y <;> first
    | exact op_gt pins s σ H _ _ v u Q I rx ry ⟨_, _, rfl, rfl, h⟩
    | exact False.elim h
theorem oGe : OpR X (compareOp .GtE) (rCI fun i j => decide (j ≤ i)) := fun pins s σ H x y v u Q I rx ry h => by
  cases x <;> cases y <;> first
    | exact op_ge pins s σ H _ _ v u Q I rx ry ⟨_, _, rfl, rfl, h⟩
    | exact False.elim h
def rIsU : R2 := fun x y H Q => match x, y with
  | .bl a, .bl b => Q (.bl (decide (a = b))) H
  | _, .non => Q (.bl (decide (x = .non))) H
  | _, _ => False
theorem oIs : OpR X (compareOp .Is) rIsU := fun pins s σ H x y v u Q I rx ry h => by
  cases y with
  | non => exact op_isN pins s σ H _ _ v u Q I rx ry ⟨rfl, by cases x <;> exact h⟩
  | bl b =>
    cases x with
    | bl a => exact op_isBl pins s σ H _ _ v u Q I rx ry ⟨a, b, rfl, rfl, h⟩
    | _ => exact False.elim h
  | _ => cases x <;> exact False.elim h
def rIsNotU : R2 := fun x y H Q => match x, y with
  | .bl a, .bl b => Q (.bl (!decide (a = b))) H
  | _, .non => Q (.bl (!decide (x = .non))) H
  | _, _ => False
theorem oIsNot : OpR X (compareOp .IsNot) rIsNotU := fun pins s σ H x y v u Q I rx ry h => by
  cases y with
  | non => exact op_notN pins s σ H _ _ v u Q I rx ry ⟨rfl, by cases x <;> exact h⟩
  | bl b =>
    cases x with
    | bl a => exact op_notBl pins s σ H _ _ v u Q I rx ry ⟨a, b, rfl, rfl, h⟩
    | _ => exact False.elim h
  | _ => cases x <;> exact False.elim h
def rInU (K : PySem.W.Frag) : R2 := fun x y H Q => match y with
  | .str z => ∃ c, x = .str ⟨#[c]⟩ ∧ Q (.bl (decide (c ∈ z.cps.toList))) H
  | .ref p => ∃ xs, SqA K H p xs ∧ flatV x = true ∧ xs.all flatV = true ∧ Q (.bl (inV x xs)) H
  | _ => False
theorem oIn {K : PySem.W.Frag} (hK : X.K = K := by rfl) : OpR X (compareOp .In) (rInU K) := fun pins s σ H x y v u Q I rx ry h => by
  subst hK
  cases y with
  | str z =>
    obtain ⟨c, e, q⟩ := h
    exact op_in_sign pins s σ H _ _ v u Q I rx ry ⟨c, z, e, rfl, q⟩
  | ref p =>
    obtain ⟨xs, hs, h1, h2, q⟩ := h
    exact op_in_seq pins s σ H _ _ v u Q I rx ry ⟨p, xs, rfl, hs, h1, h2, q⟩
  | _ => exact False.elim h
def rNotInU (K : PySem.W.Frag) : R2 := fun x y H Q => match y with
  | .str z => ∃ c, x = .str ⟨#[c]⟩ ∧ Q (.bl (!decide (c ∈ z.cps.toList))) H
  | .ref p => ∃ xs, SqA K H p xs ∧ flatV x = true ∧ xs.all flatV = true ∧ Q (.bl (!inV x xs)) H
  | _ => False
theorem oNotIn {K : PySem.W.Frag} (hK : X.K = K := by rfl) : OpR X (compareOp .NotIn) (rNotInU K) := fun pins s σ H x y v u Q I rx ry h => by
  subst hK
  cases y with
  | str z =>
    obtain ⟨c, e, q⟩ := h
    exact op_notIn_sign pins s σ H _ _ v u Q I rx ry ⟨c, z, e, rfl, q⟩
  | ref p =>
    obtain ⟨xs, hs, h1, h2, q⟩ := h
    exact op_notIn_seq pins s σ H _ _ v u Q I rx ry ⟨p, xs, rfl, hs, h1, h2, q⟩
  | _ => exact False.elim h
/-- in a tuple of tuples -/
def rInDT (K : PySem.W.Frag) : R2 := fun x y H Q => ∃ d ds, Dp K H x d ∧ Dp K H y (.tuple ds) ∧ SeqAt.shaped d = true ∧ SeqAt.shaped (.tuple ds) = true ∧ Q (.bl (ds.any fun z => PyData.eqv z d)) H
theorem oInD {K : PySem.W.Frag} {k : Nat} (hr : Room k X.A) (hK : X.K = K := by rfl) : OpR X (compareOp .In) (rInDT K) := by
  subst hK
  intro pins s σ H x y v u Q I rx ry h
  obtain ⟨d, ds, hd, he, sd, se, q⟩ := h
  obtain ⟨as, r1⟩ := Dp.reads I d x v hd rx
  obtain ⟨bs, r2⟩ := Dp.reads I (.tuple ds) y u he ry
  exact SeqAt.in_tuple_reads r2 r1 (SeqAt.canLay_of_shaped se) (SeqAt.canLay_of_shaped sd) (room_in_shaped sd (by have := hr.un; omega)) ⟨.bl _, H, I, rfl, q⟩
/-! ### x[i], x[a:b] -/
def rIxU (K : PySem.W.Frag) : R2 := fun x y H Q => match x, y with
  | .str z, .int i => z.length ≤ sizeLine ∧ ∃ c, atI z.cps.toList i = some c ∧ Q (.str ⟨#[c]⟩) H
  | .ref p, .int i => ∃ xs v, SqA K H p xs ∧ atI xs i = some v ∧ Q v H
  | _, _ => False
theorem ixU {K : PySem.W.Frag} (hK : X.K = K := by rfl) : IxR X (rIxU K) := fun a b pins s σ H x y v u Q I rx ry h hs => by
  subst hK
  refine ix_seq a b pins s σ H x y v u Q I rx ry ?_ hs
  cases x <;> cases y <;> first
    | (exact False.elim h)
    | (obtain ⟨hz, c, e, q⟩ := h; exact Or.inr (Or.inr ⟨_, _, c, rfl, rfl, hz, e, q⟩))
    | (obtain ⟨xs, v, hq, e, q⟩ := h
       rcases hq with hq | hq
       · exact Or.inl ⟨_, xs, _, v, rfl, rfl, hq, e, q⟩
       · exact Or.inr (Or.inl ⟨_, xs, _, v, rfl, rfl, hq, e, q⟩))
def rSlU (K : PySem.W.Frag) : V → Option Int → Option Int → Hp → VK → Prop := fun x lo hi H Q => match x with
  | .str z => z.length ≤ sizeLine ∧ Q (.str (cutS z lo hi)) H
  | .ref a => rSlL K (.ref a) lo hi H Q ∨ rSlA K (.ref a) lo hi H Q
  | _ => False
theorem slU {K : PySem.W.Frag} (hK : X.K = K := by rfl) : SlR X (rSlU K) := by
  subst hK
  intro pins s σ H x v vl vu lo hi sl Q I rx hs pl pu h
  cases x with
  | str z => exact sl_str pins s σ H _ v vl vu lo hi sl Q I rx hs pl pu ⟨z, rfl, h.1, h.2⟩
  | ref a =>
    rcases h with h | h
    · exact sl_list pins s σ H _ v vl vu lo hi sl Q I rx hs pl pu h
    · exact sl_tupA pins s σ H _ v vl vu lo hi sl Q I rx hs pl pu h
  | _ => exact False.elim h
/-! ### built-in calls -/
def rLenU (K : PySem.W.Frag) : List V → Hp → VK → Prop := fun vs H Q => match vs with
  | [.str z] => z.length ≤ sizeLine ∧ Q (.int z.length) H
  | [.ref p] => ∃ xs, SqA K H p xs ∧ Q (.int xs.length) H
  | _ => False
theorem cLen {K : PySem.W.Frag} (hK : X.K = K := by rfl) : CallR X (.builtin "len") (rLenU K) := by
  subst hK
  refine CallWk call_len ?_
  intro vs H Q h
  unfold rLenU at h
  split at h
  · exact ⟨_, _, rfl, ⟨h.1, rfl⟩, h.2⟩
  · obtain ⟨xs, hq, q⟩ := h
    rcases hq with hq | hq
    · exact ⟨_, _, rfl, .inl ⟨xs, hq, rfl⟩, q⟩
    · exact ⟨_, _, rfl, .inr ⟨xs, hq, rfl⟩, q⟩
  · exact h.elim
def rIntU : List V → Hp → VK → Prop := fun vs H Q => match vs with
  | [.int i] => Q (.int i) H
  | [.bl k] => Q (.int (if k then 1 else 0)) H
  | _ => False
theorem cInt : CallR X (.type "int") rIntU := CallWk call_int1 fun vs H Q h => by
  unfold rIntU at h
  split at h
  · exact .inl ⟨_, rfl, h⟩
  · exact .inr ⟨_, rfl, h⟩
  · exact h.elim
def rAbsU : List V → Hp → VK → Prop := fun vs H Q => match vs with
  | [.int i] => Q (.int (if i < 0 then -i else i)) H
  | _ => False
theorem cAbs : CallR X (.builtin "abs") rAbsU := CallWk call_abs fun vs H Q h => by
  unfold rAbsU at h
  split at h
  · exact ⟨_, rfl, h⟩
  · exact h.elim
def rListU (K : PySem.W.Frag) : List V → Hp → VK → Prop := fun vs H Q => match vs with
  | [.ref p] => ∃ ys, SqA K H p ys ∧ ∀ l, H l = none → Q (.ref l) (upd H l (.lst ys))
  | _ => False
theorem cList {K : PySem.W.Frag} (hK : X.K = K := by rfl) : CallR X (.type "list") (rListU K) := by
  subst hK
  refine CallWk call_list_of ?_
  intro vs H Q h
  unfold rListU at h
  split at h
  · obtain ⟨ys, hq, q⟩ := h
    exact ⟨_, ys, rfl, hq, q⟩
  · exact h.elim
def rTupU (K : PySem.W.Frag) : List V → Hp → VK → Prop := fun vs H Q => match vs with
  | [.ref p] => ∃ ys, SqL K H p ys ∧ ∀ l, H l = none → Q (.ref l) (upd H l (.tup ys))
  | _ => False
theorem cTup {K : PySem.W.Frag} (hK : X.K = K := by rfl) : CallR X (.type "tuple") (rTupU K) := by
  subst hK
  refine CallWk call_tuple_of ?_
  intro vs H Q h
  unfold rTupU at h
  split at h
  · obtain ⟨ys, hq, q⟩ := h
    exact ⟨_, ys, rfl, .inl ⟨hq, q⟩⟩
  · exact h.elim
/-- isinstance(x, T), T a built-in class -/
def rIsiU (K : PySem.W.Frag) : List V → Hp → VK → Prop := fun vs H Q => match vs with
  | [.non, .ty n] => ∃ b, kitB "NoneType" n = some b ∧ Q (.bl b) H
  | [.bl _, .ty n] => ∃ b, kitB "bool" n = some b ∧ Q (.bl b) H
  | [.int _, .ty n] => ∃ b, kitB "int" n = some b ∧ Q (.bl b) H
  | [.str _, .ty n] => ∃ b, kitB "str" n = some b ∧ Q (.bl b) H
  | [.ref p, .ty n] => ∃ T b, TyX K H (.ref p) (.type T) ∧ kitB T n = some b ∧ Q (.bl b) H
  | _ => False
theorem cIsi {K : PySem.W.Frag} (hK : X.K = K := by rfl) : CallR X (.builtin "isinstance") (rIsiU K) := by
  subst hK
  refine CallWk call_isi ?_
  intro vs H Q h
  unfold rIsiU at h
  split at h
  · obtain ⟨b, e, q⟩ := h; exact ⟨_, _, _, _, b, rfl, .ty _, .base .non, kit_ty e, q⟩
  · obtain ⟨b, e, q⟩ := h; exact ⟨_, _, _, _, b, rfl, .ty _, .base (.bl _), kit_ty e, q⟩
  · obtain ⟨b, e, q⟩ := h; exact ⟨_, _, _, _, b, rfl, .ty _, .base (.int _), kit_ty e, q⟩
  · obtain ⟨b, e, q⟩ := h; exact ⟨_, _, _, _, b, rfl, .ty _, .base (.str _), kit_ty e, q⟩
  · obtain ⟨T, b, ty, e, q⟩ := h; exact ⟨_, _, _, _, b, rfl, .ty _, ty, kit_ty e, q⟩
  · exact h.elim
/-! ### tests -/
/-- a bool as a test -/
def mT (t : TE) : TT := fun σ H Q => t σ H fun x H' => match x with
  | .bl b => Q b H'
  | _ => False
theorem isB (Q : Bool → Hp → Prop) : (fun (x : V) (H' : Hp) => match x with | .bl b => Q b H' | _ => False) = (fun x H' => ∃ k, x = .bl k ∧ Q k H') := by
  funext x H'
  cases x with
  | bl b => exact propext ⟨fun h => ⟨b, rfl, h⟩, fun ⟨k, e, h⟩ => by cases e; exact h⟩
  | _ => exact propext ⟨fun h => h.elim, fun ⟨k, e, h⟩ => by cases e⟩
theorem nCmp {a b : Expr} {op : CmpOp} {r : R2} {ta tb : TE} {pos : Pos} (ho : OpR X (compareOp op) r) (ha : PE X a ta) (hb : PE X b tb) (hm : behindInMarks op b = false) : PT X (.Compare a [op] [b] pos) (mT (tOp r ta tb)) :=
  PTwk (pt_cmpR ho ha hb hm) fun σ H Q h => by
    unfold mT at h
    rw [isB] at h
    exact h
theorem nVal {e : Expr} {te : TE} (h : PE X e te) (he : ∀ whole, isTrue e X.env whole = (do let v ← whole; standAt e.pos; holding [v] (truthy v)) := by intro _; rfl) : PT X e (mT te) :=
  PTwk (pt_val h he) fun σ H Q h => by
    unfold mT at h
    rw [isB] at h
    exact h
/-! ### what a for walks -/
def iAnyU (K : PySem.W.Frag) (te : TE) : TI := fun σ H R => te σ H fun v H1 => match v with
  | .str z => R (Its z) H1
  | .ref a => ((∃ xs, SqL K H1 a xs) ∧ R (Itl K a) H1) ∨ ((∃ xs, SqT K H1 a xs) ∧ R (Itt K a) H1)
  | _ => False
theorem PIwk {tg iter : Expr} {w w' : TI} (h : PI X tg iter w) (k : ∀ σ H R, w' σ H R → w σ H R) : PI X tg iter w' := ⟨fun p s σ H R I q => h.run p s σ H R I (k _ _ _ q)⟩
theorem piAny {K : PySem.W.Frag} {tg e : Expr} {te : TE} (he : PE X e te) (hK : X.K = K := by rfl) : PI X tg e (iAnyU K te) := by
  subst hK
  refine ⟨fun pins s σ H R I h => ?_⟩
  -- the value is found first; what walks it follows its kind
  have key : ∀ (v : V) (H1 : Hp) (u : Value) (s1 : Shared), Inv X pins σ H1 s1 → RelV v u → (match v with
      | .str z => R (Its z) H1
      | .ref a => ((∃ xs, SqL X.K H1 a xs) ∧ R (Itl X.K a) H1) ∨ ((∃ xs, SqT X.K H1 a xs) ∧ R (Itt X.K a) H1)
      | _ => False) → wpAny (model X.prog X.w) X.A (pyIter u) (PIE X pins σ tg R) X.xe s1 := by
    intro v H1 u s1 I1 r1 q
    cases v with
    | str x =>
      obtain ⟨t, rfl⟩ := r1
      cases ha : x.cps.all (· < 128)
      · exact wpAny_pyIter_wide ha (pi_one (tk := s1.toks) I1 _ (turn_str _ x t "str_iterator" (.inr rfl)) ⟨_, Heap.get?_push_size _ rfl, rfl, rfl⟩ q)
      · exact wpAny_pyIter_ascii ha (pi_one (tk := s1.toks) I1 _ (turn_str _ x t "str_ascii_iterator" (.inl rfl)) ⟨_, Heap.get?_push_size _ rfl, rfl, rfl⟩ q)
    | ref a =>
      cases r1
      rcases q with ⟨⟨xs, hq⟩, q⟩ | ⟨⟨xs, hq⟩, q⟩
      · obtain ⟨its, rv, pl, hz⟩ := I1.list hq
        exact wpAny_pyIter_list pl.isList (pi_one (tk := s1.toks) I1 _ (turn_list a _) ⟨_, Heap.get?_push_size _ rfl, rfl, rfl⟩ q)
      · obtain ⟨its, rv, pl, hz⟩ := I1.tuple hq
        exact wpAny_pyIter_tuple (show s1.heap.IsTuple a its.toArray from pl) (pi_one (tk := s1.toks) I1 _ (turn_tuple a _) ⟨_, Heap.get?_push_size _ rfl, rfl, rfl⟩ q)
    | _ => exact q.elim
  refine thn (he.run pins s σ H _ I h) fun u s1 ⟨v, H1, I1, r1, q⟩ => key v H1 u s1 I1 r1 q
/-! ### a module's constant -/
theorem nGlobI {x : Str} {i : Int} {pos : Pos} (hm : ∃ t, X.mg x = some (.int i t)) (hg : Gl X x := by rfl) (hd : (x == ("__debug__" : Str)) = false := by decide) : PE X (.Name x pos) (tC (.int i)) := by
  obtain ⟨t, hm⟩ := hm
  exact pe_glob hg hm ⟨t, rfl⟩ hd
theorem nGlobS {x z : Str} {pos : Pos} (hm : ∃ t, X.mg x = some (.str z t)) (hg : Gl X x := by rfl) (hd : (x == ("__debug__" : Str)) = false := by decide) : PE X (.Name x pos) (tC (.str z)) := by
  obtain ⟨t, hm⟩ := hm
  exact pe_glob hg hm ⟨t, rfl⟩ hd
/-- a tuple of the module's top -/
def GTup (K : PySem.W.Frag) (mg : Str → Option Value) (x : Str) (xs : List V) : Prop := ∃ a, mg x = some (.ref a) ∧ (∀ H, SqT K H a xs) ∧ ∃ o, K.lookup a = some o ∧ o.cls = .type "tuple" ∧ o.dict = none
def mGT (K : PySem.W.Frag) (xs : List V) : TE := fun _ H Q => ∀ a, (∀ H, SqT K H a xs) → Q (.ref a) H
theorem nGlobT {x : Str} {xs : List V} {pos : Pos} (hm : GTup X.K X.mg x xs) (hg : Gl X x := by rfl) (hd : (x == ("__debug__" : Str)) = false := by decide) : PE X (.Name x pos) (mGT X.K xs) := by
  obtain ⟨a, hm, hs, _⟩ := hm
  exact PEwk (pe_glob hg hm (v := .ref a) rfl hd) fun σ H Q h => h a hs
/-- a dict of the module's top, its keys texts -/
def GDict (K : PySem.W.Frag) (w : World) (mg : Str → Option Value) (x : Str) (kvs : List (Str × V)) : Prop := ∃ d es n, mg x = some (.ref d) ∧ KDict K w d es n ∧ ∀ z v, kvs.lookup z = some v → ∃ u, PySem.W.nsIn K d z = some (some u) ∧ RelV v u
def mDict (kvs : List (Str × V)) (te : TE) : TE := fun σ H Q => te σ H fun y H1 => match y with
  | .str z => (match kvs.lookup z with
    | some v => Q v H1
    | none => False)
  | _ => False
theorem nDict {x : Str} {kvs : List (Str × V)} {i : Expr} {te : TE} {p pos : Pos} (hm : GDict X.K X.w X.mg x kvs) (hi : PE X i te) (hs : PlainIx i) (hg : Gl X x := by rfl) (hd : (x == ("__debug__" : Str)) = false := by decide) : PE X (.Subscript (.Name x p) i pos) (mDict kvs te) := by
  obtain ⟨d, es, n, hm, D, hv⟩ := hm
  have ix : IxR X (fun x y H Q => ∃ z v, x = .ref d ∧ y = .str z ∧ kvs.lookup z = some v ∧ Q v H) := by
    intro value slice pins s σ H x y v u Q I rx ry h hs
    obtain ⟨z, r, rfl, rfl, e, q⟩ := h
    obtain ⟨u0, e1, e2⟩ := hv z r e
    have g := op_item_kd D pins s σ H _ _ v u Q I rx ry ⟨z, u0, r, rfl, rfl, e1, e2, q⟩
    cases rx
    exact PyProof.Rows.tail_any (kd_type D I) PySem.F.slot_dict_getitem.lookup g hs
  refine PEwk (pe_ix ix (pe_glob hg hm (v := .ref d) rfl hd) hi hs) fun σ H Q h => ?_
  have e : (fun (y : V) (H1 : Hp) => match y with | .str z => (match kvs.lookup z with | some v => Q v H1 | none => False) | _ => False) = (fun y H1 => ∃ z v, V.ref d = .ref d ∧ y = .str z ∧ kvs.lookup z = some v ∧ Q v H1) := by
    funext y H1
    cases y with
    | str z =>
      refine propext ⟨fun h => ?_, fun ⟨z', v, _, e1, e2, q⟩ => ?_⟩
      · cases e : kvs.lookup z with
        | none => simp only [e] at h
        | some v => simp only [e] at h; exact ⟨z, v, rfl, rfl, e, h⟩
      · cases e1
        simp only [e2]
        exact q
    | _ => exact propext ⟨fun h => h.elim, fun ⟨z', v, _, e1, _⟩ => by cases e1⟩
  unfold mDict at h
  rw [e] at h
  exact h
theorem gdict_mk {K : PySem.W.Frag} {w : World} {h : Heap} {mg : Str → Option Value} (X : K.In h) (G : h.Ns mainGlobals mg) {x : Str} {kvs : List (Str × V)} {d : Addr} {es : Array DictEntry} {n : Nat} (z : PySem.W.nsIn K mainGlobals x = some (some (.ref d)))
    (y : K.lookup d = some ⟨.type "dict", none, .dict es n, #[]⟩) (u : PySem.W.KeysLit w.params es.toList) (v : (d == sysModules) = false) (hv : ∀ z v, kvs.lookup z = some v → ∃ u, PySem.W.nsIn K d z = some (some u) ∧ RelV v u) : GDict K w mg x kvs :=
  ⟨d, es, n, PySem.W.mg_of X G z, ⟨y, u, v⟩, hv⟩
theorem lookup_all {K : PySem.W.Frag} {d : Addr} : ∀ {kvs : List (Str × V)}, (∀ q ∈ kvs, ∃ u, PySem.W.nsIn K d q.1 = some (some u) ∧ RelV q.2 u) → ∀ z v, kvs.lookup z = some v → ∃ u, PySem.W.nsIn K d z = some (some u) ∧ RelV v u
  | [], _, z, v, h => by cases h
  | (a, b) :: r, hq, z, v, h => by
    rw [List.lookup_cons] at h
    cases q : (z == a) with
    | true =>
      rw [q] at h
      have e1 : z = a := eq_of_beq q
      have e2 : b = v := Option.some.inj h
      rw [e1, ← e2]
      exact hq _ List.mem_cons_self
    | false =>
      rw [q] at h
      exact lookup_all (fun x hx => hq x (List.mem_cons_of_mem _ hx)) z v h
theorem nTy {x : Str} {T : String} {pos : Pos} (hm : X.mg x = none) (hv : bootBuiltins x = some (.type T)) (hg : Gl X x := by rfl) (hn : x ≠ "__name__" := by decide) (hd : (x == ("__debug__" : Str)) = false := by decide) : PE X (.Name x pos) (tC (.ty T)) := pe_bltn hg hm hv (v := .ty T) rfl hn hd
/-! ### exceptions of own classes over ValueError -/
structure ExcK (K : PySem.W.Frag) (mg : Str → Option Value) (x : Str) : Prop where
  ex : ∃ C, mg x = some (.ref C) ∧ PySem.W.excIn K C [.type "ValueError", .type "Exception", .type "BaseException", .type "object"] "ValueError.__new__" = true ∧ PySem.W.keepIn K (.ref C) = true ∧
    PySem.W.subIn K (.ref C) (.type "BaseException") = some true ∧ PySem.W.typeIn K (.ref C) = some (.type "type")
/-- raise X('..') -/
theorem nMk {K : PySem.W.Frag} {mg : Str → Option Value} {x m : Str} {j : Nat} {p p2 pos : Pos} (h : ExcK K mg x) (hM : X.mg = mg := by rfl) (hK : X.K = K := by rfl) (hg : Gl X x := by rfl) (hdb : (x == ("__debug__" : Str)) = false := by decide) : PMk X (.Call (.Name x p) [.Constant (.str m) j p2] [] pos) (fun _ H Q => ∀ cls, mg x = some cls → Q cls none H) := by
  subst hM
  subst hK
  obtain ⟨C, g, e, kp, sb, ty⟩ := h.ex
  intro pins s σ H Q I q
  exact pmk_own PySem.F.excBase_ValueError e g kp (raises_own sb ty) hg hdb pins s σ H Q I (q _ g)
/-- try: .. except X: .. -/
theorem nTryOnly {x : Str} {body suite : List Stmt} {b₀ : Stmt} {np pos pos' : Pos} {tb : WX → TS} {ts : Addr → Value → Option Addr → TS} {Wout : WX} (hs : X.stack = X.env :: X.outer) (hf : X.env.frame = some X.env.locals) (hx : ExcK X.K X.mg x) (tk : Takes X Wout)
    (hb : ∀ (W : WX) (pn : List (Addr × Obj)) (xe : Value → Shared → Prop), Takes (X.tr pn xe) W → PassesOwn (model X.prog X.w) X.A X.env xe → PSs (X.tr pn xe) body (tb W))
    (hsu : ∀ (a : Addr) (oe : Obj) (cls : Value) (d : Option Addr) (pn : List (Addr × Obj)), Zc cls d oe → (∃ vs, oe.data = .fields vs) → PSs (X.suite a ((a, oe) :: pn)) (b₀ :: suite) (ts a cls d)) (hg : Gl X x := by rfl) (hdb : (x == ("__debug__" : Str)) = false := by decide) :
    PS X (.Try body [.ExceptHandler (some (.Name x np)) none (b₀ :: suite) pos'] [] [] pos) (fun D σ H => ∀ c, X.mg x = some c → tb (wOnly X.K c ts Wout D) D σ H) := by
  obtain ⟨C, g, e, kp, sb, ty⟩ := hx.ex
  refine ⟨fun pins s σ H D I h => ?_⟩
  exact (ps_try_only hs hf ⟨hg, hdb, .inl g⟩ tk hb hsu).run pins s σ H D I (h _ g)
theorem nTryAs {x n : Str} {i : Nat} {body suite : List Stmt} {b₀ : Stmt} {np pos pos' : Pos} {tb : WX → TS} {ts : Addr → Value → Option Addr → TS} {Wout : WX} (hs : X.stack = X.env :: X.outer) (hf : X.env.frame = some X.env.locals) (hN : X.N.Nodup) (hi : X.N[i]? = some n) (hln : X.env.kindOf n = some .local) (hx : ExcK X.K X.mg x) (tk : Takes X Wout)
    (hb : ∀ (W : WX) (pn : List (Addr × Obj)) (xe : Value → Shared → Prop), Takes (X.tr pn xe) W → PassesOwn (model X.prog X.w) X.A X.env xe → PSs (X.tr pn xe) body (tb W))
    (hsu : ∀ (a : Addr) (oe : Obj) (cls : Value) (d : Option Addr) (pn : List (Addr × Obj)), Zc cls d oe → (∃ vs, oe.data = .fields vs) → PSs (X.suite a ((a, oe) :: pn)) (b₀ :: suite) (ts a cls d)) (hg : Gl X x := by rfl) (hdb : (x == ("__debug__" : Str)) = false := by decide) :
    PS X (.Try body [.ExceptHandler (some (.Name x np)) (some n) (b₀ :: suite) pos'] [] [] pos) (fun D σ H => ∀ c, X.mg x = some c → tb (wAs X.K c i ts Wout D) D σ H) := by
  obtain ⟨C, g, e, kp, sb, ty⟩ := hx.ex
  refine ⟨fun pins s σ H D I h => ?_⟩
  exact (ps_try_as hs hf hN hi hln ⟨hg, hdb, .inl g⟩ tk hb hsu).run pins s σ H D I (h _ g)
/-- a class of the top as a value -/
theorem nGlobC {K : PySem.W.Frag} {mg : Str → Option Value} {x : Str} {pos : Pos} (h : ExcK K mg x) (hM : X.mg = mg := by rfl) (hg : Gl X x := by rfl) (hd : (x == ("__debug__" : Str)) = false := by decide) : PE X (.Name x pos) (fun _ H Q => ∀ C, mg x = some (.ref C) → Q (.ref C) H) := by
  subst hM
  obtain ⟨C, g, _⟩ := h.ex
  exact PEwk (pe_glob hg g (v := .ref C) rfl hd) fun σ H Q q => q C g
/-- isinstance of the exception that a suite holds -/
def rIsEU (K : PySem.W.Frag) (a : Addr) (cls : Value) (d : Option Addr) : List V → Hp → VK → Prop := fun xs H Q => ∃ D, cls = .ref D ∧ d = none ∧ L2.ExcC K D ∧ rIsE K D a xs H Q
theorem cIsE {K : PySem.W.Frag} {a : Addr} {cls : Value} {d : Option Addr} {oe : Obj} {pn : List (Addr × Obj)} (hz : Zc cls d oe) (hf : ∃ vs, oe.data = .fields vs) (hK : X.K = K := by rfl) : CallR (X.suite a ((a, oe) :: pn)) (.builtin "isinstance") (rIsEU K a cls d) := by
  subst hK
  intro pins s σ H xs us Q I r h
  obtain ⟨D, rfl, rfl, C, h⟩ := h
  exact call_isE C hz hf pins s σ H xs us Q I r h
def IsX (K : PySem.W.Frag) (mg : Str → Option Value) (x : Str) : Prop := ∃ C, mg x = some (.ref C) ∧ L2.ExcC K C
/-- isinstance(an X, the own class Y) -/
def KitX (K : PySem.W.Frag) (mg : Str → Option Value) (x y : Str) (b : Bool) : Prop := ∀ c1 c2, mg x = some c1 → mg y = some c2 → PySem.W.kitOne K c1 c2 = some b
/-- isinstance(an X, the built-in class T) -/
def KitT (K : PySem.W.Frag) (mg : Str → Option Value) (x : Str) (T : String) (b : Bool) : Prop := ∀ c1, mg x = some c1 → PySem.W.kitOne K c1 (.type T) = some b
theorem kitx_mk {K : PySem.W.Frag} {h : Heap} {mg : Str → Option Value} (X : K.In h) (G : h.Ns mainGlobals mg) {x y : Str} {b : Bool} {C S : Addr} (a1 : PySem.W.nsIn K mainGlobals x = some (some (.ref C))) (a2 : PySem.W.nsIn K mainGlobals y = some (some (.ref S)))
    (h2 : PySem.W.isClsIn K S = true) (h3 : PySem.W.typeIn K (.ref S) = some (.type "type")) (h4 : PySem.W.subIn K (.ref C) (.ref S) = some b) (h5 : x = y → b = true) (h6 : C = S → x = y) : KitX K mg x y b := by
  intro c1 c2 e1 e2
  rw [PySem.W.mg_of X G a1] at e1
  rw [PySem.W.mg_of X G a2] at e2
  cases e1
  cases e2
  have q2 : ((PySem.W.clsIn K S).isSome && PySem.W.typeIn K (.ref S) == some (.type "type")) = true := by
    have z : (PySem.W.clsIn K S).isSome = true := h2
    rw [z, h3]; rfl
  show (if (Value.ref C == Value.ref S) = true then some true else if ((PySem.W.clsIn K S).isSome && PySem.W.typeIn K (.ref S) == some (.type "type")) = true then PySem.W.subIn K (.ref C) (.ref S) else none) = some b
  by_cases q : (Value.ref C == Value.ref S) = true
  · rw [if_pos q]
    have : C = S := by
      have := eq_of_beq q
      injection this
    rw [h5 (h6 this)]
  · rw [if_neg q, if_pos q2]
    exact h4
theorem kitt_mk {K : PySem.W.Frag} {h : Heap} {mg : Str → Option Value} (X : K.In h) (G : h.Ns mainGlobals mg) {x : Str} {T : String} {b : Bool} {C : Addr} (a1 : PySem.W.nsIn K mainGlobals x = some (some (.ref C))) (hT : PySem.W.kitMeta T = true)
    (h4 : PySem.W.subIn K (.ref C) (.type T) = some b) : KitT K mg x T b := by
  intro c1 e1
  rw [PySem.W.mg_of X G a1] at e1
  cases e1
  show (if (Value.ref C == Value.type T) = true then some true else if PySem.W.kitMeta T = true then PySem.W.subIn K (.ref C) (.type T) else none) = some b
  rw [if_neg (by intro q; cases q), if_pos hT]
  exact h4
/-- what an except clause of Y says of an exception of the class X -/
def ExM (K : PySem.W.Frag) (mg : Str → Option Value) (x y : Str) (b : Bool) : Prop := ∀ c1 c2, mg x = some c1 → mg y = some c2 → PySem.W.exmOne K c1 c2 = some b
theorem exm_mk {K : PySem.W.Frag} {h : Heap} {mg : Str → Option Value} (X : K.In h) (G : h.Ns mainGlobals mg) {x y : Str} {b : Bool} {C S : Addr} (a1 : PySem.W.nsIn K mainGlobals x = some (some (.ref C))) (a2 : PySem.W.nsIn K mainGlobals y = some (some (.ref S)))
    (h1 : PySem.W.subIn K (.ref S) (.type "BaseException") = some true) (h2 : PySem.W.isClsIn K S = true) (h3 : PySem.W.typeIn K (.ref S) = some (.type "type")) (h4 : PySem.W.subIn K (.ref C) (.ref S) = some b) : ExM K mg x y b := by
  intro c1 c2 e1 e2
  have f1 := PySem.W.mg_of X G a1
  have f2 := PySem.W.mg_of X G a2
  rw [f1] at e1
  rw [f2] at e2
  cases e1
  cases e2
  have q1 : (PySem.W.subIn K (.ref S) (.type "BaseException") == some true) = true := by rw [h1]; rfl
  have q2 : ((PySem.W.clsIn K S).isSome && PySem.W.typeIn K (.ref S) == some (.type "type")) = true := by
    have z : (PySem.W.clsIn K S).isSome = true := h2
    rw [z, h3]; rfl
  show (if (PySem.W.subIn K (.ref S) (.type "BaseException") == some true) = true then (if ((PySem.W.clsIn K S).isSome && PySem.W.typeIn K (.ref S) == some (.type "type")) = true then PySem.W.subIn K (.ref C) (.ref S) else none) else none) = some b
  rw [if_pos q1, if_pos q2]
  exact h4
/-! ### a def that is called -/
end
/-- a def of the top that keeps a promise -/
def Cal (P : Program) (w : World) (K : PySem.W.Frag) (mg : Str → Option Value) (base : Heap) (CX : CXT) (k : Nat) (x : Str) (ps : List Str) (sp : Sp) : Prop :=
  ∃ f fd, mg x = some (.ref f) ∧ PySem.W.keepIn K (.ref f) = true ∧ Binds K fd ps [] ∧ FnOk P w K mg base CX k f fd ps sp
/-- a def of the text, as the top has left it -/
def Fn (K : PySem.W.Frag) (mg : Str → Option Value) (g x : Str) (st : Stmt) (ps : List Str) : Prop :=
  ∃ f fd, mg g = some (.ref f) ∧ Fun K x x st f fd ∧ Binds K fd ps []
section
variable {P : Program} {w : World} {K : PySem.W.Frag} {mg : Str → Option Value} {base : Heap}
theorem Fn.ok {g x : Str} {st : Stmt} {N ps : List Str} {k : Nat} {sp : Sp} (F : Fn K mg g x st ps) (S : FnScope N ps (defScope st)) (len : ∀ vs H Q E, sp vs H Q E → vs.length = ps.length)
    (hbody : ∀ (f : Addr) (cdv : Value) (A : Around) (outer : List Env) (s : Shared) (H : Hp) (vs : List V) (Q : VK) (E : XK), Room k (A.deeper (envOfC x (defScope st) s.heap.objs.size f cdv)) → sp vs H Q E →
      ∃ t, PSs (cxOf CX0 P w K mg base N x (defScope st) f cdv A outer s H E).nox (defBody st) t ∧ t { nx := fun _ H' => Q .non H', rt := Q } (start N vs) H) : Cal P w K mg base CX0 (k + 1) g ps sp := by
  obtain ⟨f, fd, hm, F, b⟩ := F
  exact ⟨f, fd, hm, F.kp, b, F.ok S len fun cdv A outer s H vs Q E hr h => hbody f cdv A outer s H vs Q E hr h⟩
theorem Fn.okX {g x : Str} {st : Stmt} {N ps : List Str} {k : Nat} {sp : Sp} (F : Fn K mg g x st ps) (S : FnScope N ps (defScope st)) (len : ∀ vs H Q E, sp vs H Q E → vs.length = ps.length)
    (hbody : ∀ (f : Addr) (cdv : Value) (A : Around) (outer : List Env) (s : Shared) (H : Hp) (vs : List V) (Q : VK) (E : XK), Room k (A.deeper (envOfC x (defScope st) s.heap.objs.size f cdv)) → sp vs H Q E →
      ∃ t, PSs (cxOf (L2.CX P w) P w K mg base N x (defScope st) f cdv A outer s H E) (defBody st) t ∧ t { nx := fun _ H' => Q .non H', rt := Q } (start N vs) H) : Cal P w K mg base (L2.CX P w) (k + 1) g ps sp := by
  obtain ⟨f, fd, hm, F, b⟩ := F
  exact ⟨f, fd, hm, F.kp, b, F.okX S len fun cdv A outer s H vs Q E hr h => hbody f cdv A outer s H vs Q E hr h⟩
theorem fn_mk {h : Heap} (X : K.In h) (G : h.Ns mainGlobals mg) {g x : Str} {st : Stmt} {ps : List Str} {f : Addr} {oc : Value} {od an : Option Addr} {osl : Array (Option Value)} {kV doc pm cdv ct : Value} (a : PySem.W.nsIn K mainGlobals g = some (some (.ref f)))
    (l : K.lookup f = some ⟨oc, od, .func (PySem.W.fnOf x x (defArgs st) (defBody st) (defScope st) .none kV doc pm an cdv ct), osl⟩) (c : PySem.W.codeIn K cdv x = true) (k : PySem.W.keepIn K (.ref f) = true)
    (b : ∀ (kV doc pm : Value) (an : Option Addr) (cdv ct : Value) (us : List Value), us.length = ps.length → bindArgs (PySem.W.fnOf x x (defArgs st) (defBody st) (defScope st) .none kV doc pm an cdv ct) ⟨us, []⟩ = pure (ps.zip us)) : Fn K mg g x st ps :=
  ⟨f, _, PySem.W.mg_of X G a, L2.fun_mk l c k, (L2.fun_mk l c k).binds b⟩
theorem Cal.imp {CX : CXT} {k : Nat} {x : Str} {ps : List Str} {sp sp' : Sp} (C : Cal P w K mg base CX k x ps sp) (h : ∀ vs H Q E, sp' vs H Q E → sp vs H Q E) : Cal P w K mg base CX k x ps sp' := by
  obtain ⟨f, fd, hm, kp, b, F⟩ := C
  exact ⟨f, fd, hm, kp, b, F.imp h⟩
theorem Cal.mono {CX : CXT} {j k : Nat} {x : Str} {ps : List Str} {sp : Sp} (C : Cal P w K mg base CX j x ps sp) (h : j ≤ k) : Cal P w K mg base CX k x ps sp := by
  obtain ⟨f, fd, hm, kp, b, F⟩ := C
  exact ⟨f, fd, hm, kp, b, F.mono h⟩
end
section
variable {X : Cx} {CX : CXT} {k : Nat} {ps : List Str} {sp : Sp} {E : XK} {x : Str} {p pos : Pos} {e : Expr} {es : List Expr} {t : TA}
/-- f(..) -/
def mCall (sp : Sp) (E : XK) (t : TA) : TE := fun σ H Q => t σ H fun vs H1 => sp vs H1 Q E
theorem nCall (C : Cal X.prog X.w X.K X.mg X.base CX k x ps sp) (hr : Room k X.A) (hx : Passes CX X E) (ha : PA X (e :: es) t) (hg : Gl X x := by rfl) (hdb : (x == ("__debug__" : Str)) = false := by decide)
    (he : starEach (e :: es) X.env = (false, eval e X.env) :: starEach es X.env := by rfl) (hpl : (backTo pos (starEach es X.env)).any (·.1) = false := by rfl) : PE X (.Call (.Name x p) (e :: es) [] pos) (mCall sp E t) := by
  obtain ⟨f, fd, hm, kp, b, F⟩ := C
  refine ⟨fun pins s σ H Q I h => ?_⟩
  refine (pe_call F hr hg hm kp b .nil hx ha hdb he hpl).run pins s σ H Q I ?_
  have e : (fun vs H1 => sp (vs ++ []) H1 Q E) = fun vs H1 => sp vs H1 Q E := by
    funext vs H1
    rw [List.append_nil]
  show t σ H fun vs H1 => sp (vs ++ []) H1 Q E
  rw [e]
  exact h
/-- f(..), what is raised told at the slots -/
def mCallS (sp : Sp) (E : L2.St → XK) (t : TA) : TE := fun σ H Q => t σ H fun vs H1 => sp vs H1 Q (E σ)
theorem nCallS {E : L2.St → XK} (C : Cal X.prog X.w X.K X.mg X.base CX k x ps sp) (hr : Room k X.A) (hx : ∀ σ, PassesAt CX X σ (E σ)) (ha : PA X (e :: es) t) (hg : Gl X x := by rfl) (hdb : (x == ("__debug__" : Str)) = false := by decide)
    (he : starEach (e :: es) X.env = (false, eval e X.env) :: starEach es X.env := by rfl) (hpl : (backTo pos (starEach es X.env)).any (·.1) = false := by rfl) : PE X (.Call (.Name x p) (e :: es) [] pos) (mCallS sp E t) := by
  obtain ⟨f, fd, hm, kp, b, F⟩ := C
  exact pe_callS F hr hg hm kp b hx ha hdb he hpl
theorem nCall0 (C : Cal X.prog X.w X.K X.mg X.base CX k x ps sp) (hr : Room k X.A) (hx : Passes CX X E) (hg : Gl X x := by rfl) (hdb : (x == ("__debug__" : Str)) = false := by decide) : PE X (.Call (.Name x p) [] [] pos) (fun _ H Q => sp [] H Q E) := by
  obtain ⟨f, fd, hm, kp, b, F⟩ := C
  refine ⟨fun pins s σ H Q I h => ?_⟩
  exact (pe_call0 F hr hg hm kp b .nil hx hdb).run pins s σ H Q I h
end
end NV

set_option Elab.async false
set_option linter.all false
set_option maxRecDepth 100000
set_option maxHeartbeats 4000000
/-! # the law's stream: a list of four, told by what is true of its one object -/
namespace NV
open PySem PySem.Spec PyProof.Rows L2
def Strm (p q : Addr) (h : Heap) : Prop := ∃ (a b c : Int) (t1 t2 t3 : Tok) (n : Nat), h.get? p = some { cls := .type "list", data := .seq #[.ref q, .int a t1, .int b t2, .int c t3] n } ∧ 0 ≤ b
/-- a stream to draw from stands at p -/
def StrmAt (H : Hp) (p : Addr) : Prop := ∃ (q : Addr) (ns : List Int), H p = some (.ext (Strm p q)) ∧ H q = some (.lst (ns.map V.int))
theorem StrmAt.mono {H H' : Hp} {p : Addr} (e : Evl.Ex H H') (h : StrmAt H p) : StrmAt H' p := by
  obtain ⟨q, ns, h1, h2⟩ := h
  exact ⟨q, ns, e _ _ h1, e _ _ h2⟩
section
variable {P : Program} {w : World} {K : PySem.W.Frag} {mg : Str → Option Value} {base : Heap}
theorem strm_of {H : Hp} {h : Heap} {p q : Addr} {a b c : Int} (x : ObjOk P w H h p (.lst [.ref q, .int a, .int b, .int c])) (hb : 0 ≤ b) : Strm p q h := by
  obtain ⟨_, its, n, r, e⟩ := x
  cases r with
  | cons r0 r => cases r with
    | cons r1 r => cases r with
      | cons r2 r => cases r with
        | cons r3 r =>
          cases r
          cases r0
          obtain ⟨t1, rfl⟩ := r1
          obtain ⟨t2, rfl⟩ := r2
          obtain ⟨t3, rfl⟩ := r3
          exact ⟨a, b, c, t1, t2, t3, n, e, hb⟩
theorem strm_ext {H : Hp} {h : Heap} {p q : Addr} (x : Strm p q h) : ObjOk P w H h p (.ext (Strm p q)) := by
  refine ⟨x, ?_, fun h1 h2 y k => ?_⟩
  · obtain ⟨a, b, c, t1, t2, t3, n, e, _⟩ := x
    exact ⟨_, e⟩
  · obtain ⟨a, b, c, t1, t2, t3, n, e, hb⟩ := y
    exact ⟨a, b, c, t1, t2, t3, n, k _ e, hb⟩
/-- what stands at p is told otherwise: neither telling is one that others lean on -/
theorem hok_tell {H : Hp} {h : Heap} {p : Addr} {o : HO} (ok : HOk P w H h) (no : ∀ y, H p ≠ some (.own y)) (nt : ∀ xs, H p ≠ some (.tup xs)) (new : ObjOk P w (upd H p o) h p o) : HOk P w (upd H p o) h := fun b u e => by
  by_cases hb : b = p
  · subst hb
    rw [upd_same] at e
    cases e
    exact new
  · rw [upd_ne hb] at e
    exact (ok b u e).stay (fun c v _ q => q) (fun c q => by rw [upd_ne (fun z => by rw [z] at q; exact no _ q)]; exact q) (fun c xs q => by rw [upd_ne (fun z => by rw [z] at q; exact nt _ q)]; exact q)
/-- a def that hands back, beside what it promises, a list of four: it stands as a stream from there on -/
theorem Cal.seal {k : Nat} {x : Str} {ps : List Str} {sp sp' : Sp} (C : Cal P w K mg base CX0 k x ps sp)
    (h : ∀ vs H Q E, sp' vs H Q E → sp vs H (fun v H' => ∃ (p q : Addr) (a b c : Int), H' p = some (.lst [.ref q, .int a, .int b, .int c]) ∧ 0 ≤ b ∧ Q v (upd H' p (.ext (Strm p q)))) E) : Cal P w K mg base CX0 k x ps sp' := by
  obtain ⟨f, fd, hm, kp, bd, F⟩ := C
  refine ⟨f, fd, hm, kp, bd, fun vs H Q E q => F.len _ _ _ _ (h _ _ _ _ q), fun A outer s H args us vs Q E hr he hb hv hs => codeAny_mono (F.run A outer s H args us vs _ E hr he hb hv (h _ _ _ _ hs)) fun r s' hq => ?_⟩
  cases r with
  | error e => exact hq
  | ok fl =>
    cases fl with
    | ret u =>
      obtain ⟨v, H', os, bare, un, hok, rv, p, q, a, b, c, hp, hb0, qq⟩ := hq
      have neS : ∀ d, H' d = none → d ≠ p := fun d e z => by rw [z, hp] at e; cases e
      refine ⟨v, upd H' p (.ext (Strm p q)), os, bare, ⟨un.keep, un.slot, fun d o e n hx => ?_, un.there, fun d xs e => ?_, fun d o y e => ?_, fun d tb e => ?_⟩, ?_, rv, qq⟩
      · have n' := un.free d o e n hx
        rw [upd_ne (neS d n')]
        exact n'
      · have z := un.tups d xs e
        rw [upd_ne (fun y => by rw [y, hp] at z; cases z)]
        exact z
      · have z := un.frzs d o y e
        rw [upd_ne (fun y => by rw [y, hp] at z; cases z)]
        exact z
      · obtain ⟨m, z⟩ := un.tbls d tb e
        exact ⟨m, by rw [upd_ne (fun y => by rw [y, hp] at z; cases z)]; exact z⟩
      · exact hok_tell hok (fun y e => by rw [hp] at e; cases e) (fun y e => by rw [hp] at e; cases e) (strm_ext (strm_of (hok p _ hp) hb0))
    | next => exact hq
    | brk => exact hq
    | cont => exact hq
/-- a def that draws from a stream: the list of four is seen within it alone -/
theorem Cal.unseal {k : Nat} {x : Str} {ps : List Str} {sp sp' : Sp} (C : Cal P w K mg base CX0 k x ps sp)
    (hl : ∀ vs H Q E, sp' vs H Q E → vs.length = ps.length)
    (h : ∀ vs H Q E, sp' vs H Q E → ∃ p, (StrmAt H p) ∧ ∀ (q : Addr) (ns : List Int) (a b c : Int), H p = some (.ext (Strm p q)) → H q = some (.lst (ns.map V.int)) → 0 ≤ b →
      sp vs (upd H p (.lst [.ref q, .int a, .int b, .int c])) (fun v H' => Q v H ∧ ∃ (a' b' c' : Int), 0 ≤ b' ∧ H' = upd (upd H p (.lst [.ref q, .int a, .int b, .int c])) p (.lst [.ref q, .int a', .int b', .int c'])) E) : Cal P w K mg base CX0 k x ps sp' := by
  obtain ⟨f, fd, hm, kp, bd, F⟩ := C
  refine ⟨f, fd, hm, kp, bd, hl, fun A outer s H args us vs Q E hr he hb hv hs => ?_⟩
  obtain ⟨p, ⟨q, ns, hp, hq⟩, hs⟩ := h _ _ _ _ hs
  obtain ⟨⟨a, b, c, t1, t2, t3, n, hg, hb0⟩, _, _⟩ := he.hok p _ hp
  have hs := hs q ns a b c hp hq hb0
  have neS : ∀ d, H d = none → d ≠ p := fun d e z => by rw [z, hp] at e; cases e
  have he1 : Env0 P w K mg base A outer s (upd H p (.lst [.ref q, .int a, .int b, .int c])) := by
    refine ⟨he.frames, he.mod, fun d o e => ?_, he.bsz, he.funs, fun d hd => ?_, ?_, he.bare⟩
    · obtain ⟨e1, e2⟩ := he.bs d o e
      exact ⟨e1, by rw [upd_ne (neS d e2)]; exact e2⟩
    · have e2 := he.frf d hd
      rw [upd_ne (neS d e2)]
      exact e2
    · exact hok_tell he.hok (fun y e => by rw [hp] at e; cases e) (fun y e => by rw [hp] at e; cases e)
        ⟨by show 4 ≤ sizeLine; decide, _, n, .cons rfl (.cons ⟨t1, rfl⟩ (.cons ⟨t2, rfl⟩ (.cons ⟨t3, rfl⟩ .nil))), hg⟩
  refine codeAny_mono (F.run A outer s _ args us vs _ E hr he1 hb hv hs) fun r s' hq2 => ?_
  cases r with
  | error e => exact hq2
  | ok fl =>
    cases fl with
    | ret u =>
      obtain ⟨v, H', os, bare, un, hok, rv, qq, a', b', c', hb1, rfl⟩ := hq2
      rw [upd_upd] at hok un
      refine ⟨v, H, os, bare, ⟨fun d o e n => un.keep d o e (by rw [upd_ne (neS d n)]; exact n), fun d o e n => un.slot d o e (by rw [upd_ne (neS d n)]; exact n), fun d o e n hx => n, un.there, fun d xs e => e, fun d o y e => e, fun d tb e => ⟨#[], by rw [e]; simp⟩⟩, ?_, rv, qq⟩
      have x := hok p _ upd_same
      have y := hok_tell (o := .ext (Strm p q)) hok (fun y e => by rw [upd_same] at e; cases e) (fun y e => by rw [upd_same] at e; cases e) (strm_ext (strm_of x hb1))
      rw [upd_upd] at y
      have z : upd H p (.ext (Strm p q)) = H := by
        funext d
        unfold upd
        by_cases hd : d = p
        · rw [if_pos hd, hd, hp]
        · rw [if_neg hd]
      rw [z] at y
      exact y
    | next => exact hq2
    | brk => exact hq2
    | cont => exact hq2
end
end NV

set_option Elab.async false
set_option linter.all false
set_option maxRecDepth 100000
set_option maxHeartbeats 4000000
/-! # texts and trees -/
namespace NV
open PySem PySem.Spec PyProof.Rows L2
open Evl (Ex)
/-- a text by its signs -/
abbrev S (l : List Nat) : Str := ⟨l.toArray⟩
theorem S_append (a b : List Nat) : S a ++ S b = S (a ++ b) := by
  show (⟨a.toArray ++ b.toArray⟩ : Str) = ⟨(a ++ b).toArray⟩
  rw [List.append_toArray]
theorem S_len (a : List Nat) : (S a).length = a.length := rfl
theorem S_add_len (x y : Str) : (x ++ y).length = x.length + y.length := by
  obtain ⟨x, rfl⟩ : ∃ l, x = S l := ⟨x.cps.toList, rfl⟩
  obtain ⟨y, rfl⟩ : ∃ l, y = S l := ⟨y.cps.toList, rfl⟩
  rw [S_append, S_len, List.length_append]
  rfl
theorem cut_len (z : Str) (lo hi : Option Int) : (cutS z lo hi).length ≤ z.length := by
  obtain ⟨l, rfl⟩ : ∃ l, z = S l := ⟨z.cps.toList, rfl⟩
  show (List.take _ (List.drop _ l)).length ≤ l.length
  rw [List.length_take, List.length_drop]
  omega
theorem S_inj {a b : List Nat} (h : S a = S b) : a = b := by
  have := congrArg (fun s : Str => s.cps.toList) h
  exact this
theorem S_cut (a : List Nat) (lo hi : Option Int) : cutS (S a) lo hi = S ((a.drop (HT.sIx a.length 0 lo)).take (HT.sIx a.length a.length hi - HT.sIx a.length 0 lo)) := rfl
theorem S_rep (a : List Nat) (n : Nat) : repS (S a) n = S (List.replicate n a).flatten := rfl
theorem S_of (s : Str) : ∃ l, s = S l := ⟨s.cps.toList, rfl⟩
/-- a stand-alone fact of new objects -/
theorem ne_new {H : Hp} {a b : Addr} {o : HO} (h : H a = some o) (h' : H b = none) : b ≠ a := (ne_of_none h h').symm
theorem okB {p : Prop} [Decidable p] {Q : VK} {H : Hp} (h : p) (k : Q (.bl true) H) : Q (.bl (decide p)) H := by
  rw [decide_eq_true h]
  exact k
theorem iteB {b : Bool} {A B : Prop} (h1 : b = true → A) (h2 : b = false → B) : if b = true then A else B := by
  cases b with
  | true => exact h1 rfl
  | false => exact h2 rfl
theorem iteD {p : Prop} [Decidable p] {A B : Prop} (h1 : p → A) (h2 : ¬ p → B) : if decide p = true then A else B := by
  by_cases h : p
  · rw [decide_eq_true h]; exact h1 h
  · rw [decide_eq_false h]; exact h2 h
theorem iteN {p : Prop} [Decidable p] {A B : Prop} (h1 : ¬ p → A) (h2 : p → B) : if (!decide p) = true then A else B := by
  by_cases h : p
  · rw [decide_eq_true h]; exact h2 h
  · rw [decide_eq_false h]; exact h1 h
theorem iteI {i j : Int} {A B : Prop} (h1 : i = j → A) (h2 : ¬ i = j → B) : if decide (V.int i = V.int j) = true then A else B :=
  iteD (fun h => h1 (V.int.inj h)) (fun h => h2 fun e => h (by rw [e]))
theorem iteNI {i j : Int} {A B : Prop} (h1 : ¬ i = j → A) (h2 : i = j → B) : if (!decide (V.int i = V.int j)) = true then A else B :=
  iteN (fun h => h1 fun e => h (by rw [e])) (fun h => h2 (V.int.inj h))
theorem iteS {i j : Str} {A B : Prop} (h1 : i = j → A) (h2 : ¬ i = j → B) : if decide (V.str i = V.str j) = true then A else B :=
  iteD (fun h => h1 (V.str.inj h)) (fun h => h2 fun e => h (by rw [e]))
theorem upd_self {H : Hp} {p : Addr} {o : HO} (h : H p = some o) : upd H p o = H := by
  funext d
  unfold upd
  by_cases hd : d = p
  · rw [if_pos hd, hd, h]
  · rw [if_neg hd]
theorem atI_at {α : Type} {xs : List α} {i : Int} (h0 : 0 ≤ i) (h1 : i < xs.length) : ∃ h : i.toNat < xs.length, atI xs i = some xs[i.toNat] := by
  have h : i.toNat < xs.length := by omega
  refine ⟨h, ?_⟩
  have := atI_nat (xs := xs) (j := i.toNat) (List.getElem?_eq_getElem h)
  rw [Int.toNat_of_nonneg h0] at this
  exact this
theorem atI_int {ns : List Int} {i : Int} (h0 : 0 ≤ i) (h1 : i < (ns.map V.int).length) : ∃ z, atI (ns.map V.int) i = some (.int z) := by
  obtain ⟨h, e⟩ := atI_at (xs := ns.map V.int) h0 h1
  rw [List.getElem_map] at e
  exact ⟨_, e⟩
theorem pickI {xs : List V} {f : V → Bool} (h : xs.all f = true) {i : Int} (h0 : 0 ≤ i) (h1 : i < xs.length) : ∃ v, atI xs i = some v ∧ f v = true := by
  obtain ⟨hi, e⟩ := atI_at h0 h1
  exact ⟨_, e, List.all_eq_true.mp h _ (List.getElem_mem hi)⟩
theorem pick_ix {K : PySem.W.Frag} {H : Hp} {p : Addr} {xs : List V} {f : V → Bool} {i : Int} {Q : V → Prop} (hq : SqA K H p xs) (h : xs.all f = true) (h0 : 0 ≤ i) (h1 : i < xs.length) (k : ∀ v, f v = true → Q v) : ∃ xs v, SqA K H p xs ∧ atI xs i = some v ∧ Q v := by
  obtain ⟨v, e, hv⟩ := pickI h h0 h1
  exact ⟨xs, v, hq, e, k v hv⟩
theorem str_ix {z : Str} {n : Nat} {i : Int} {Q : Nat → Prop} (hn : z.cps.toList.length = n) (hz : n ≤ 100000) (h0 : 0 ≤ i) (h1 : i < n) (k : ∀ c, z.cps.toList[i.toNat]? = some c → Q c) : z.length ≤ sizeLine ∧ ∃ c, atI z.cps.toList i = some c ∧ Q c := by
  have hl : z.length = n := hn
  have hs : sizeLine = 16777216 := sizeLine_eq
  obtain ⟨hi, e⟩ := atI_at (xs := z.cps.toList) h0 (by rw [hn]; exact h1)
  exact ⟨by omega, _, e, k _ (List.getElem?_eq_getElem hi)⟩
theorem mem_ix {K : PySem.W.Frag} {H : Hp} {p : Addr} {xs : List V} {i : Int} {P Q : V → Prop} (hq : SqA K H p xs) (h0 : 0 ≤ i) (h1 : i < xs.length) (hP : ∀ v ∈ xs, P v) (k : ∀ v, P v → Q v) : ∃ xs v, SqA K H p xs ∧ atI xs i = some v ∧ Q v := by
  obtain ⟨hi, e⟩ := atI_at h0 h1
  exact ⟨xs, _, hq, e, k _ (hP _ (List.getElem_mem hi))⟩
theorem mem_of_get {α : Type} {xs : List α} {i : Nat} {x : α} (h : xs[i]? = some x) : x ∈ xs := by
  obtain ⟨hi, e⟩ := List.getElem?_eq_some_iff.mp h
  rw [← e]
  exact List.getElem_mem hi
theorem map_get {α β : Type} {f : α → β} {xs : List α} {i : Nat} {y : β} (h : (xs.map f)[i]? = some y) : ∃ x, xs[i]? = some x ∧ y = f x := by
  rw [List.getElem?_map] at h
  cases e : xs[i]? with
  | none => rw [e] at h; cases h
  | some u => rw [e] at h; exact ⟨u, rfl, (Option.some.inj h).symm⟩
/-! ### signs, trees -/
inductive Tr where
  | l
  | n (a b : Tr)
  deriving DecidableEq
def Tr.enc : Tr → List Nat
  | .l => [48]
  | .n a b => 49 :: (a.enc ++ b.enc)
def Tr.pairs : Tr → Nat
  | .l => 0
  | .n a b => a.pairs + b.pairs + 1
theorem Tr.enc_len : ∀ t : Tr, t.enc.length = 2 * t.pairs + 1
  | .l => rfl
  | .n a b => by
    have h1 := a.enc_len
    have h2 := b.enc_len
    simp only [Tr.enc, Tr.pairs, List.length_cons, List.length_append]
    omega
theorem Tr.enc_ne (t : Tr) : t.enc ≠ [] := by cases t <;> simp [Tr.enc]
theorem S_app1 (a : List Nat) : S a ++ ("1" : Str) = S (a ++ [49]) := S_append a [49]
theorem S_app0 (a : List Nat) : S a ++ ("0" : Str) = S (a ++ [48]) := S_append a [48]
/-- m trees are missing; how many behind these signs -/
def scan : Nat → List Nat → Option Nat
  | m, [] => some m
  | 0, _ :: _ => none
  | m + 1, c :: cs => if c = 49 then scan (m + 2) cs else if c = 48 then scan m cs else none
theorem scan_nil (m : Nat) : scan m [] = some m := by cases m <;> rfl
theorem scan_zero (c : Nat) (cs : List Nat) : scan 0 (c :: cs) = none := rfl
theorem scan_one (m : Nat) (cs : List Nat) : scan (m + 1) (49 :: cs) = scan (m + 2) cs := rfl
theorem scan_leaf (m : Nat) (cs : List Nat) : scan (m + 1) (48 :: cs) = scan m cs := rfl
theorem scan_other (m : Nat) {c : Nat} (cs : List Nat) (h1 : c ≠ 49) (h0 : c ≠ 48) : scan (m + 1) (c :: cs) = none := by
  show (if c = 49 then _ else if c = 48 then _ else none) = _
  rw [if_neg h1, if_neg h0]
theorem scan_append : ∀ (a b : List Nat) (m : Nat), scan m (a ++ b) = (scan m a).bind fun k => scan k b
  | [], b, m => by rw [List.nil_append, scan_nil]; rfl
  | c :: a, b, 0 => rfl
  | c :: a, b, m + 1 => by
    show (if c = 49 then scan (m + 2) (a ++ b) else if c = 48 then scan m (a ++ b) else none) = (if c = 49 then scan (m + 2) a else if c = 48 then scan m a else none).bind _
    by_cases h1 : c = 49
    · rw [if_pos h1, if_pos h1]; exact scan_append a b (m + 2)
    · rw [if_neg h1, if_neg h1]
      by_cases h0 : c = 48
      · rw [if_pos h0, if_pos h0]; exact scan_append a b m
      · rw [if_neg h0, if_neg h0]; rfl
theorem scan_enc : ∀ (t : Tr) (m : Nat) (r : List Nat), scan (m + 1) (t.enc ++ r) = scan m r
  | .l, m, r => rfl
  | .n a b, m, r => by
    show scan (m + 2) (a.enc ++ b.enc ++ r) = _
    rw [List.append_assoc, scan_enc a (m + 1), scan_enc b m]
theorem scan_enc1 (t : Tr) : scan 1 t.enc = some 0 := by
  have := scan_enc t 0 []
  rw [List.append_nil] at this
  rw [this]
  rfl
/-- what is read to its end is so many trees -/
theorem scan_trees : ∀ (s : List Nat) (m : Nat), scan m s = some 0 → ∃ ts : List Tr, ts.length = m ∧ s = (ts.map Tr.enc).flatten
  | [], m, h => by
    rw [scan_nil] at h
    cases h
    exact ⟨[], rfl, rfl⟩
  | c :: cs, 0, h => by cases h
  | c :: cs, m + 1, h => by
    have h' : (if c = 49 then scan (m + 2) cs else if c = 48 then scan m cs else none) = some 0 := h
    by_cases h1 : c = 49
    · rw [if_pos h1] at h'
      obtain ⟨ts, hl, e⟩ := scan_trees cs (m + 2) h'
      match ts, hl, e with
      | a :: b :: r, hl, e =>
        refine ⟨.n a b :: r, by simpa using hl, ?_⟩
        rw [e, h1]
        simp [Tr.enc, List.append_assoc]
    · rw [if_neg h1] at h'
      by_cases h0 : c = 48
      · rw [if_pos h0] at h'
        obtain ⟨ts, hl, e⟩ := scan_trees cs m h'
        refine ⟨.l :: ts, by simpa using hl, ?_⟩
        rw [e, h0]
        rfl
      · rw [if_neg h0] at h'
        cases h'
theorem scan_tree {s : List Nat} (h : scan 1 s = some 0) : ∃ t : Tr, s = t.enc := by
  obtain ⟨ts, hl, e⟩ := scan_trees s 1 h
  match ts, hl, e with
  | [t], _, e => exact ⟨t, by rw [e]; simp⟩
/-- a tree of at most 200,000 signs -/
def isTr (s : List Nat) : Bool := decide (s.length ≤ 200000) && decide (scan 1 s = some 0)
/-- what is_tree answers of a value -/
inductive TrAns (K : PySem.W.Frag) (H : Hp) : V → Bool → Prop
  | str {l : List Nat} (h : l.length ≤ 10000000) : TrAns K H (.str (S l)) (isTr l)
  | lst {a : Addr} (h : TyX K H (.ref a) (.type "list")) : TrAns K H (.ref a) false
  | tup {a : Addr} (h : TyX K H (.ref a) (.type "tuple")) : TrAns K H (.ref a) false
  | non : TrAns K H .non false
  | int (i : Int) : TrAns K H (.int i) false
  | bl (b : Bool) : TrAns K H (.bl b) false
theorem isTr_enc {t : Tr} (h : t.enc.length ≤ 200000) : isTr t.enc = true := by
  unfold isTr
  rw [scan_enc1, decide_eq_true h]
  rfl
theorem TrAns.tree {K : PySem.W.Frag} {H : Hp} {t : Tr} (h : t.enc.length ≤ 200000) : TrAns K H (.str (S t.enc)) true := by
  have := TrAns.str (K := K) (H := H) (l := t.enc) (by omega)
  rw [isTr_enc h] at this
  exact this
theorem tyx_ex {K : PySem.W.Frag} {H H' : Hp} (e : Ex H H') {v : V} {t : Value} (h : TyX K H v t) : TyX K H' v t := by
  cases h with
  | base h =>
    cases h with
    | non => exact .base .non
    | bl x => exact .base (.bl x)
    | int i => exact .base (.int i)
    | str x => exact .base (.str x)
    | flt x => exact .base (.flt x)
    | lst h => exact .base (.lst (e _ _ h))
    | frz h => exact .base (.frz (e _ _ h))
    | tup h => exact .base (.tup (e _ _ h))
    | dK h => exact .base (.dK (e _ _ h))
    | dT h => exact .base (.dT (e _ _ h))
    | ins h a b c d f => exact .base (.ins (e _ _ h) a b c d f)
  | byt b => exact .byt b
  | set h => exact .set (e _ _ h)
  | kList h c => exact .kList h c
  | kTuple h c => exact .kTuple h c
  | kDict h c => exact .kDict h c
  | fTuple h => exact .fTuple (e _ _ h)
  | fDict h => exact .fDict (e _ _ h)
theorem TrAns.mono {K : PySem.W.Frag} {H H' : Hp} (e : Ex H H') {v : V} {b : Bool} (h : TrAns K H v b) : TrAns K H' v b := by
  cases h with
  | str h => exact .str h
  | lst h => exact .lst (tyx_ex e h)
  | tup h => exact .tup (tyx_ex e h)
  | non => exact .non
  | int i => exact .int i
  | bl b => exact .bl b
theorem enc_inj : ∀ (t u : Tr) (r r' : List Nat), t.enc ++ r = u.enc ++ r' → t = u ∧ r = r'
  | .l, .l, r, r', h => by
    simp only [Tr.enc, List.cons_append, List.nil_append, List.cons.injEq, true_and] at h
    exact ⟨rfl, h⟩
  | .l, .n _ _, r, r', h => by simp [Tr.enc] at h
  | .n _ _, .l, r, r', h => by simp [Tr.enc] at h
  | .n a b, .n c d, r, r', h => by
    simp only [Tr.enc, List.cons_append, List.cons.injEq, true_and, List.append_assoc] at h
    obtain ⟨e1, h⟩ := enc_inj a c _ _ h
    obtain ⟨e2, h⟩ := enc_inj b d _ _ h
    exact ⟨by rw [e1, e2], h⟩
theorem enc_inj1 {t u : Tr} (h : t.enc = u.enc) : t = u := (enc_inj t u [] [] (by rw [h])).1
def tens (n : Nat) : List Nat := (List.replicate n [49, 48]).flatten ++ [48]
theorem flat_len (n : Nat) (l : List Nat) : (List.replicate n l).flatten.length = n * l.length := by
  induction n with
  | zero => simp
  | succ n ih => rw [List.replicate_succ, List.flatten_cons, List.length_append, ih, Nat.succ_mul, Nat.add_comm]
theorem flat_rep {α : Type} (x : α) : ∀ n : Nat, (List.replicate n [x]).flatten = List.replicate n x
  | 0 => rfl
  | n + 1 => by
    rw [List.replicate_succ, List.flatten_cons, flat_rep x n, List.replicate_succ]
    rfl
theorem tens_len (n : Nat) : (tens n).length = 2 * n + 1 := by
  unfold tens
  rw [List.length_append, flat_len]
  show n * 2 + 1 = _
  omega
/-- the number n as a tree -/
def numT : Nat → Tr
  | 0 => .l
  | n + 1 => .n .l (numT n)
theorem numT_enc : ∀ n, (numT n).enc = tens n
  | 0 => rfl
  | n + 1 => by
    show 49 :: ([48] ++ (numT n).enc) = _
    rw [numT_enc n]
    unfold tens
    rw [List.replicate_succ, List.flatten_cons, List.append_assoc]
    rfl
theorem tens_str (n : Nat) : repS ("10" : Str) n ++ ("0" : Str) = S (tens n) := S_append _ _
theorem tens_inj {n m : Nat} (h : tens n = tens m) : n = m := by
  have := congrArg List.length h
  rw [tens_len, tens_len] at this
  omega
def Tr.hd : Tr → Tr
  | .l => .l
  | .n a _ => a
def Tr.tl : Tr → Tr
  | .l => .l
  | .n _ b => b
theorem drop_head {α : Type} {l r : List α} {c : α} {j : Nat} (h : l.drop j = c :: r) : l[j]? = some c ∧ l.drop (j + 1) = r ∧ j < l.length := by
  have hj : j < l.length := by
    have := congrArg List.length h
    rw [List.length_drop, List.length_cons] at this
    omega
  rw [List.drop_eq_getElem_cons hj] at h
  injection h with h1 h2
  exact ⟨by rw [List.getElem?_eq_getElem hj, h1], h2, hj⟩
theorem end_step {l post : List Nat} {t : Tr} {r : List Tr} {j : Nat} (h : l.drop j = ((t :: r).map Tr.enc).flatten ++ post) :
    j < l.length ∧ ∃ c, l[j]? = some c ∧ ((c = 49 ∧ ∃ a b, l.drop (j + 1) = ((a :: b :: r).map Tr.enc).flatten ++ post) ∨ (c = 48 ∧ l.drop (j + 1) = (r.map Tr.enc).flatten ++ post)) := by
  rw [List.map_cons, List.flatten_cons] at h
  cases t with
  | l =>
    have h' : l.drop j = 48 :: ((r.map Tr.enc).flatten ++ post) := h
    obtain ⟨h1, h2, h3⟩ := drop_head h'
    exact ⟨h3, 48, h1, .inr ⟨rfl, h2⟩⟩
  | n a b =>
    have h' : l.drop j = 49 :: (a.enc ++ b.enc ++ (r.map Tr.enc).flatten ++ post) := h
    obtain ⟨h1, h2, h3⟩ := drop_head h'
    refine ⟨h3, 49, h1, .inl ⟨rfl, a, b, ?_⟩⟩
    rw [h2]
    simp [List.append_assoc]
theorem end_at {l pre t post : List Nat} {j : Nat} (hl : l = pre ++ t ++ post) (h : l.drop j = post) (hj : j ≤ l.length) : j = pre.length + t.length := by
  have h1 := congrArg List.length h
  have h2 := congrArg List.length hl
  rw [List.length_drop] at h1
  rw [List.length_append, List.length_append] at h2
  omega
theorem cut_mid (a b c : List Nat) : cutS (S (a ++ b ++ c)) (some (a.length : Nat)) (some ((a.length + b.length : Nat) : Int)) = S b := by
  rw [S_cut, HT.sIx_nat, HT.sIx_nat, List.length_append, List.length_append, Nat.min_eq_left (by omega), Nat.min_eq_left (by omega), Nat.add_sub_cancel_left, List.append_assoc, List.drop_left, List.take_left]
theorem cut_end (a b : List Nat) : cutS (S (a ++ b)) (some (a.length : Nat)) none = S b := by
  rw [S_cut, HT.sIx_nat, HT.sIx_none, List.length_append, Nat.min_eq_left (by omega), Nat.add_sub_cancel_left, List.drop_left, List.take_length]
theorem cut_start (a b : List Nat) : cutS (S (a ++ b)) none (some (a.length : Nat)) = S a := by
  rw [S_cut, HT.sIx_nat, HT.sIx_none, List.length_append, Nat.min_eq_left (by omega), Nat.sub_zero]
  show S ((a ++ b).take a.length) = S a
  rw [List.take_left]
theorem le_sum {x : Nat} : ∀ {l : List Nat}, x ∈ l → x ≤ l.sum
  | y :: l, h => by
    rw [List.sum_cons]
    rcases List.mem_cons.mp h with h | h
    · omega
    · have := le_sum h
      omega
theorem inV01 (c : Nat) : inV (.str (S [c])) [.str ("0" : Str), .str ("1" : Str)] = (decide (c = 48) || decide (c = 49)) := by
  have e0 : eqV (.str ("0" : Str)) (.str (S [c])) = decide (c = 48) := by
    show decide (("0" : Str) = S [c]) = decide (c = 48)
    by_cases h : c = 48
    · rw [h]; rfl
    · rw [decide_eq_false h, decide_eq_false]
      intro q
      have := S_inj (a := [48]) (b := [c]) q
      simp at this
      exact h this.symm
  have e1 : eqV (.str ("1" : Str)) (.str (S [c])) = decide (c = 49) := by
    show decide (("1" : Str) = S [c]) = decide (c = 49)
    by_cases h : c = 49
    · rw [h]; rfl
    · rw [decide_eq_false h, decide_eq_false]
      intro q
      have := S_inj (a := [49]) (b := [c]) q
      simp at this
      exact h this.symm
  show (eqV (.str ("0" : Str)) (.str (S [c])) || (eqV (.str ("1" : Str)) (.str (S [c])) || false)) = _
  rw [e0, e1, Bool.or_false]
/-! ### lists of trees -/
def listS (ls : List (List Nat)) : List Nat := (ls.map fun l => 49 :: l).flatten ++ [48]
def listT : List Tr → Tr
  | [] => .l
  | t :: r => .n t (listT r)
theorem listT_enc : ∀ ts : List Tr, (listT ts).enc = listS (ts.map Tr.enc)
  | [] => rfl
  | t :: r => by
    show 49 :: (t.enc ++ (listT r).enc) = _
    rw [listT_enc r]
    unfold listS
    simp
/-- every tree is a list -/
def Tr.items : Tr → List Tr
  | .l => []
  | .n a b => a :: b.items
theorem listT_items : ∀ t : Tr, listT t.items = t
  | .l => rfl
  | .n a b => by
    show Tr.n a (listT b.items) = _
    rw [listT_items b]
theorem items_listT : ∀ ts : List Tr, (listT ts).items = ts
  | [] => rfl
  | t :: r => by
    show t :: (listT r).items = _
    rw [items_listT r]
theorem join_S (ls : List (List Nat)) : Txt.join ("" : Str) (ls.map S) = S ls.flatten := by
  refine TL.ext_tl ?_
  rw [TL.join_eq, TL.tl_join]
  have e : (ls.map S).map TL.tl = ls := by
    rw [List.map_map]
    exact List.map_id _
  rw [e]
  show TL.joinL [] ls = ls.flatten
  have : ∀ ls : List (List Nat), TL.joinL [] ls = ls.flatten := by
    intro ls
    induction ls with
    | nil => rfl
    | cons p r ih =>
      cases r with
      | nil => simp [TL.joinL]
      | cons q r =>
        show p ++ ([] ++ TL.joinL [] (q :: r)) = _
        rw [ih]
        simp
  exact this ls
theorem sum_len (ls : List (List Nat)) : ((ls.map fun l => S (49 :: l)).map (·.length)).sum + 1 = (listS ls).length := by
  unfold listS
  rw [List.length_append, List.length_flatten, List.map_map, List.map_map]
  rfl
theorem take_map {α β : Type} {f : α → β} {ls : List α} {i : Nat} {l : α} (h : ls[i]? = some l) : (ls.take (i + 1)).map f = (ls.take i).map f ++ [f l] := by
  rw [List.take_add_one, h, List.map_append]
  rfl
/-- a for over a text's signs -/
theorem for_str {z : List Nat} {g : TG} {tb : TS} {D : Ends} {σ : L2.St} {H : Hp} (Pv : Nat → L2.St → Hp → Prop) (h0 : Pv 0 σ H)
    (hs : ∀ i c σ H, z[i]? = some c → Pv i σ H → g (.str (S [c])) σ H fun σ2 H2 => tb { D with nx := Pv (i + 1), ct := Pv (i + 1), bk := D.nx } σ2 H2) (hd : ∀ σ H, Pv z.length σ H → D.nx σ H) :
    ∃ W : Nat → Nat → L2.St → Hp → Prop, (∃ m, W 0 m σ H) ∧ ∀ i m σ H, W i m σ H →
      ((Its (S z)).stop i H ∧ D.nx σ H) ∨ ((Its (S z)).go i H ∧ ∃ N : L2.St → Hp → Prop, (∀ σ' H', N σ' H' → ∃ m', m' < m ∧ W (i + 1) m' σ' H') ∧ ∀ x H', (Its (S z)).yld i H x H' → g x σ H' fun σ2 H2 => tb { D with nx := N, ct := N, bk := D.nx } σ2 H2) := by
  refine ⟨fun i m s h => Pv i s h ∧ i ≤ z.length ∧ i + m = z.length, ⟨z.length, h0, Nat.zero_le _, by omega⟩, ?_⟩
  rintro i m s h ⟨p, hi, em⟩
  by_cases hlt : i < z.length
  · refine .inr ⟨show i < (S z).cps.size from hlt, Pv (i + 1), fun s' h' p' => ⟨m - 1, by omega, p', hlt, by omega⟩, ?_⟩
    rintro x h' ⟨rfl, c, hc, rfl⟩
    have hc' : z[i]? = some c := by
      have e : (S z).cps[i]? = z[i]? := List.getElem?_toArray
      rw [← e]
      exact hc
    exact hs i c s _ hc' p
  · have e : i = z.length := by omega
    subst e
    exact .inl ⟨Nat.le_refl _, hd _ _ p⟩
theorem drop_cons {α : Type} {z : List α} {i : Nat} {c : α} (h : z[i]? = some c) : z.drop i = c :: z.drop (i + 1) := by
  obtain ⟨hi, e⟩ := List.getElem?_eq_some_iff.mp h
  rw [List.drop_eq_getElem_cons hi, e]
/-! ### a law's end -/
def spLaw (K : PySem.W.Frag) (_ : Str → Option Value) : Sp := fun vs H Q _ => ∃ (a : Addr) (ns : List Int), vs = [.ref a] ∧ SqL K H a (ns.map V.int) ∧ ns.length ≤ 63 ∧ ∀ H', Q (.bl true) H'
theorem walk_law {l : PySem.W.OpenLaw} {k : Nat} {q : Program} {loose : List Str} {XP : (Str → Option Value) → Heap → Prop} {YP : World → Heap → Prop} {d : DefRec} {K : Params → PySem.W.Frag} (hn : l.most = some 63) (hdf : d.params.defaults = []) (hk : k ≤ 60)
    (hY : ∀ (w : World) (h : Heap), YP w h → (K w.params).In h)
    (F : ∀ (w : World) (mg : Str → Option Value) (fa : Addr) (h : Heap), (K w.params).In h → h.Ns mainGlobals mg → mg d.name = some (.ref fa) →
      ∃ fd : FuncData, (∀ (s : Shared) (u : Value), BindsTo s fd ⟨[u], []⟩ [("_law_script", u)]) ∧ ∀ base : Heap, (K w.params).In base → base.Ns mainGlobals mg → FnOk l.prog w (K w.params) mg base CX0 k fa fd ["_law_script"] (spLaw (K w.params) mg)) :
    PySem.W.WalkO q loose XP YP l.row.toRowW d [] (fun f vs => PySem.call f vs) :=
  L2.walk_of (n := 63) (k := k) (x := "_law_script") (CX := fun _ => CX0) (sp := fun w => fun vs H Q _ => ∃ (a : Addr) (ns : List Int), vs = [.ref a] ∧ SqL (K w.params) H a (ns.map V.int) ∧ ns.length ≤ 63 ∧ ∀ H', Q (.bl true) H') hn (by decide) hdf (Room.mono (show Room 60 callerA from ⟨rfl, by decide, by decide⟩) hk) hY F (fun _ _ a ns hl _ hS => ⟨a, ns, rfl, hS, hl, fun _ => rfl⟩) fun _ _ _ _ _ z => z
end NV

set_option Elab.async false
set_option linter.all false
set_option maxRecDepth 100000
set_option maxHeartbeats 4000000
/-! # data: lists and tuples of texts and ints -/
namespace NV
open PySem PySem.Spec PyProof.Rows L2
open Evl (Ex)
mutual
theorem Dp.mono {K : PySem.W.Frag} {H H' : Hp} (e : Ex H H') : ∀ (d : PyData) {v : V}, Dp K H v d → Dp K H' v d
  | .none, _, h => by cases h; exact .non
  | .bool b, _, h => by cases h; exact .bl b
  | .int i, _, h => by cases h; exact .int i
  | .str x, _, h => by cases h; exact .str x
  | .list ds, _, h => by
    cases h with
    | lst hs ha => exact .lst (Evl.ex_l e hs) (DpAll.mono e ds ha)
  | .tuple ds, _, h => by
    cases h with
    | tup hs ha => exact .tup (Evl.ex_t e hs) (DpAll.mono e ds ha)
  | .dict _, _, h => by cases h
theorem DpAll.mono {K : PySem.W.Frag} {H H' : Hp} (e : Ex H H') : ∀ (ds : List PyData) {vs : List V}, DpAll K H vs ds → DpAll K H' vs ds
  | [], _, h => by cases h; exact .nil
  | d :: ds, _, h => by
    cases h with
    | cons h1 h2 => exact .cons (Dp.mono e d h1) (DpAll.mono e ds h2)
end
theorem DpAll.len {K : PySem.W.Frag} {H : Hp} : ∀ {xs : List V} {ds : List PyData}, DpAll K H xs ds → xs.length = ds.length
  | _, _, .nil => rfl
  | _, _, .cons _ t => by rw [List.length_cons, List.length_cons, DpAll.len t]
theorem DpAll.get {K : PySem.W.Frag} {H : Hp} : ∀ {xs : List V} {ds : List PyData} {i : Nat} {x : V}, DpAll K H xs ds → xs[i]? = some x → ∃ d, ds[i]? = some d ∧ Dp K H x d
  | _, _, _, _, .nil, h => by simp at h
  | _, _, 0, _, .cons h t, e => by simp at e; subst e; exact ⟨_, rfl, h⟩
  | _, _, i + 1, _, .cons h t, e => by simp at e; simpa using DpAll.get t e
/-! no bools, no dicts, good texts -/
mutual
def nb : PyData → Bool
  | .none => true
  | .bool _ => false
  | .int _ => true
  | .str x => x.cps.all (· < 0x110000)
  | .list xs => nbAll xs
  | .tuple xs => nbAll xs
  | .dict _ => false
def nbAll : List PyData → Bool
  | [] => true
  | x :: xs => nb x && nbAll xs
end
mutual
theorem nb_lay : ∀ d : PyData, nb d = true → d.canLay0 = true
  | .none, _ => rfl
  | .bool _, h => by cases h
  | .int _, _ => rfl
  | .str x, h => h
  | .list xs, h => nbAll_lay xs h
  | .tuple xs, h => nbAll_lay xs h
  | .dict _, h => by cases h
theorem nbAll_lay : ∀ ds : List PyData, nbAll ds = true → PyData.canLayAll0 ds = true
  | [], _ => rfl
  | x :: xs, h => by
    have h' : (nb x && nbAll xs) = true := h
    rw [Bool.and_eq_true] at h'
    show (x.canLay0 && PyData.canLayAll0 xs) = true
    rw [nb_lay x h'.1, nbAll_lay xs h'.2]
    rfl
end
mutual
theorem eqv_nb : ∀ d e : PyData, nb d = true → nb e = true → (PyData.eqv d e = true ↔ d = e)
  | .none, e, _, h => by cases e <;> simp [PyData.eqv]
  | .bool _, _, h, _ => by cases h
  | .int i, e, _, h => by cases e <;> first | (simp [PyData.eqv]; done) | (cases h)
  | .str x, e, _, h => by cases e <;> first | (simp [PyData.eqv]; done) | (cases h)
  | .list xs, e, hx, h => by
    cases e with
    | list ys =>
      show PyData.eqvAll xs ys = true ↔ _
      rw [eqvAll_nb xs ys hx h]
      exact ⟨fun q => by rw [q], fun q => PyData.list.inj q⟩
    | bool _ => cases h
    | dict _ => cases h
    | _ => simp [PyData.eqv]
  | .tuple xs, e, hx, h => by
    cases e with
    | tuple ys =>
      show PyData.eqvAll xs ys = true ↔ _
      rw [eqvAll_nb xs ys hx h]
      exact ⟨fun q => by rw [q], fun q => PyData.tuple.inj q⟩
    | bool _ => cases h
    | dict _ => cases h
    | _ => simp [PyData.eqv]
  | .dict _, _, h, _ => by cases h
theorem eqvAll_nb : ∀ xs ys : List PyData, nbAll xs = true → nbAll ys = true → (PyData.eqvAll xs ys = true ↔ xs = ys)
  | [], [], _, _ => by simp [PyData.eqvAll]
  | [], _ :: _, _, _ => by simp [PyData.eqvAll]
  | _ :: _, [], _, _ => by simp [PyData.eqvAll]
  | x :: xs, y :: ys, hx, hy => by
    have hx' : (nb x && nbAll xs) = true := hx
    have hy' : (nb y && nbAll ys) = true := hy
    rw [Bool.and_eq_true] at hx' hy'
    show (PyData.eqv x y && PyData.eqvAll xs ys) = true ↔ _
    rw [Bool.and_eq_true, eqv_nb x y hx'.1 hy'.1, eqvAll_nb xs ys hx'.2 hy'.2]
    exact ⟨fun q => by rw [q.1, q.2], fun q => by injection q with a b; exact ⟨a, b⟩⟩
end
theorem eqv_dec {d e : PyData} {p : Prop} [Decidable p] (hd : nb d = true) (he : nb e = true) (h : d = e ↔ p) : PyData.eqv d e = decide p := by
  have := eqv_nb d e hd he
  by_cases q : p
  · rw [decide_eq_true q, this.mpr (h.mpr q)]
  · rw [decide_eq_false q]
    cases z : PyData.eqv d e with
    | false => rfl
    | true => exact absurd (h.mp (this.mp z)) q
theorem shaped_of {d : PyData} (h : nb d = true) (hd : d.depth ≤ 64) : SeqAt.shaped d = true := by
  show (d.canLay0 && decide (d.depth ≤ 64)) = true
  rw [nb_lay d h, decide_eq_true hd]
  rfl
/-- signs that a text may have -/
def sOk (l : List Nat) : Bool := l.all (· < 0x110000)
theorem nb_S (l : List Nat) : nb (.str (S l)) = sOk l := by
  show (l.toArray.all fun x => decide (x < 0x110000)) = _
  rw [List.all_toArray]
  rfl
theorem sOk_enc : ∀ t : Tr, sOk t.enc = true
  | .l => rfl
  | .n a b => by
    have h1 := sOk_enc a
    have h2 := sOk_enc b
    unfold sOk at *
    show (decide (49 < 0x110000) && (a.enc ++ b.enc).all _) = true
    rw [List.all_append, h1, h2]
    rfl
end NV

set_option Elab.async false
set_option linter.all false
set_option maxRecDepth 100000
set_option maxHeartbeats 4000000
/-! # programs -/
namespace NV
open PySem PySem.Spec PyProof.Rows L2
open Evl (Ex)
/-- what a loop over a list does, its body of any form -/
theorem walk_list {K : PySem.W.Frag} {a : Addr} {xs : List V} {B : V → Hp → (Hp → Prop) → Prop} {Qd : Hp → Prop} {H1 : Hp} (Pv : Nat → Hp → Prop) (h0 : Pv 0 H1) (hl : ∀ i H, i ≤ xs.length → Pv i H → SqL K H a xs)
    (hs : ∀ i x H, xs[i]? = some x → Pv i H → B x H (Pv (i + 1))) (hd : ∀ H, Pv xs.length H → Qd H) :
    ∃ W : Nat → Nat → Hp → Prop, (∃ m, W 0 m H1) ∧ ∀ i m H, W i m H → ((Itl K a).stop i H ∧ Qd H) ∨ ((Itl K a).go i H ∧ ∃ Nx : Hp → Prop, (∀ H', Nx H' → ∃ m', m' < m ∧ W (i + 1) m' H') ∧ ∀ x H', (Itl K a).yld i H x H' → B x H' Nx) := by
  refine ⟨fun i m h => i ≤ xs.length ∧ Pv i h ∧ i + m = xs.length, ⟨xs.length, Nat.zero_le _, h0, by omega⟩, ?_⟩
  rintro i m h ⟨hi, p, em⟩
  have q := hl i h hi p
  by_cases hlt : i < xs.length
  · refine .inr ⟨⟨xs, xs[i], q, List.getElem?_eq_getElem hlt⟩, Pv (i + 1), fun h' p' => ⟨m - 1, by omega, hlt, p', by omega⟩, ?_⟩
    rintro x h' ⟨rfl, y⟩
    exact hs i x _ (y xs q) p
  · have e : i = xs.length := by omega
    subst e
    exact .inl ⟨⟨xs, q, Nat.le_refl _⟩, hd _ p⟩
theorem walk_tup {K : PySem.W.Frag} {a : Addr} {xs : List V} {B : V → Hp → (Hp → Prop) → Prop} {Qd : Hp → Prop} {H1 : Hp} (Pv : Nat → Hp → Prop) (h0 : Pv 0 H1) (hl : ∀ i H, i ≤ xs.length → Pv i H → SqT K H a xs)
    (hs : ∀ i x H, xs[i]? = some x → Pv i H → B x H (Pv (i + 1))) (hd : ∀ H, Pv xs.length H → Qd H) :
    ∃ W : Nat → Nat → Hp → Prop, (∃ m, W 0 m H1) ∧ ∀ i m H, W i m H → ((Itt K a).stop i H ∧ Qd H) ∨ ((Itt K a).go i H ∧ ∃ Nx : Hp → Prop, (∀ H', Nx H' → ∃ m', m' < m ∧ W (i + 1) m' H') ∧ ∀ x H', (Itt K a).yld i H x H' → B x H' Nx) := by
  refine ⟨fun i m h => i ≤ xs.length ∧ Pv i h ∧ i + m = xs.length, ⟨xs.length, Nat.zero_le _, h0, by omega⟩, ?_⟩
  rintro i m h ⟨hi, p, em⟩
  have q := hl i h hi p
  by_cases hlt : i < xs.length
  · refine .inr ⟨⟨xs, xs[i], q, List.getElem?_eq_getElem hlt⟩, Pv (i + 1), fun h' p' => ⟨m - 1, by omega, hlt, p', by omega⟩, ?_⟩
    rintro x h' ⟨rfl, y⟩
    exact hs i x _ (y xs q) p
  · have e : i = xs.length := by omega
    subst e
    exact .inl ⟨⟨xs, q, Nat.le_refl _⟩, hd _ p⟩
/-! ### instructions -/
inductive Row where
  | set (a : Nat) (t : Tr)
  | move (a b : Nat)
  | cons (a b c : Nat)
  | head (a b : Nat)
  | tail (a b : Nat)
  | jump (a : Nat) (n : Int)
  deriving DecidableEq
def Row.word : Row → Str
  | .set _ _ => "set"
  | .move _ _ => "move"
  | .cons _ _ _ => "cons"
  | .head _ _ => "head"
  | .tail _ _ => "tail"
  | .jump _ _ => "jump"
def Row.parts : Row → List V
  | .set a t => [.int a, .str (S t.enc)]
  | .move a b => [.int a, .int b]
  | .cons a b c => [.int a, .int b, .int c]
  | .head a b => [.int a, .int b]
  | .tail a b => [.int a, .int b]
  | .jump a n => [.int a, .int n]
def Row.vs (r : Row) : List V := .str r.word :: r.parts
def Row.regs : Row → List Nat
  | .set a _ => [a]
  | .move a b => [a, b]
  | .cons a b c => [a, b, c]
  | .head a b => [a, b]
  | .tail a b => [a, b]
  | .jump a _ => [a]
def Row.ds : Row → List PyData
  | .set a t => [.str ("set" : Str), .int a, .str (S t.enc)]
  | .move a b => [.str ("move" : Str), .int a, .int b]
  | .cons a b c => [.str ("cons" : Str), .int a, .int b, .int c]
  | .head a b => [.str ("head" : Str), .int a, .int b]
  | .tail a b => [.str ("tail" : Str), .int a, .int b]
  | .jump a n => [.str ("jump" : Str), .int a, .int n]
def Row.d (r : Row) : PyData := .tuple r.ds
/-- the tree of a set -/
def Row.tree : Row → Option Tr
  | .set _ t => some t
  | _ => none
def RowAt (K : PySem.W.Frag) (H : Hp) (v : V) (r : Row) : Prop := ∃ p, v = .ref p ∧ SqT K H p r.vs
abbrev PrgL (K : PySem.W.Frag) (H : Hp) : List V → List Row → Prop := Paired (RowAt K H)
/-- a program stands at a -/
def PrgAt (K : PySem.W.Frag) (H : Hp) (a : Addr) (rows : List Row) : Prop := ∃ xs, SqL K H a xs ∧ PrgL K H xs rows
section
variable {K : PySem.W.Frag} {H H' : Hp}
theorem RowAt.mono (e : Ex H H') {v : V} {r : Row} (h : RowAt K H v r) : RowAt K H' v r := by
  obtain ⟨p, e1, h⟩ := h
  exact ⟨p, e1, Evl.ex_t e h⟩
theorem PrgL.mono (e : Ex H H') {xs : List V} {rows : List Row} (h : PrgL K H xs rows) : PrgL K H' xs rows := Paired.mapP h fun _ _ q => q.mono e
theorem PrgAt.mono (e : Ex H H') {a : Addr} {rows : List Row} (h : PrgAt K H a rows) : PrgAt K H' a rows := by
  obtain ⟨xs, h1, h2⟩ := h
  exact ⟨xs, Evl.ex_l e h1, h2.mono e⟩
theorem paired_get {α β : Type} {F : α → β → Prop} : ∀ {xs : List α} {ys : List β} {i : Nat} {x : α}, Paired F xs ys → xs[i]? = some x → ∃ y, ys[i]? = some y ∧ F x y
  | _, _, _, _, .nil, h => by simp at h
  | _, _, 0, _, .cons h t, e => by simp at e; subst e; exact ⟨_, rfl, h⟩
  | _, _, i + 1, _, .cons h t, e => by simp at e; simpa using paired_get t e
theorem paired_get' {α β : Type} {F : α → β → Prop} : ∀ {xs : List α} {ys : List β} {i : Nat} {y : β}, Paired F xs ys → ys[i]? = some y → ∃ x, xs[i]? = some x ∧ F x y
  | _, _, _, _, .nil, h => by simp at h
  | _, _, 0, _, .cons h t, e => by simp at e; subst e; exact ⟨_, rfl, h⟩
  | _, _, i + 1, _, .cons h t, e => by simp at e; simpa using paired_get' t e
theorem paired_app {α β : Type} {F : α → β → Prop} : ∀ {xs xs' : List α} {ys ys' : List β}, Paired F xs ys → Paired F xs' ys' → Paired F (xs ++ xs') (ys ++ ys')
  | _, _, _, _, .nil, h => h
  | _, _, _, _, .cons h t, h' => .cons h (paired_app t h')
theorem paired_rep {α β : Type} {F : α → β → Prop} {x : α} {y : β} (h : F x y) : ∀ n : Nat, Paired F (List.replicate n x) (List.replicate n y)
  | 0 => .nil
  | n + 1 => .cons h (paired_rep h n)
theorem row_dp {v : V} {r : Row} (h : RowAt K H v r) : Dp K H v r.d := by
  obtain ⟨p, rfl, h⟩ := h
  refine .tup h ?_
  cases r with
  | set a t => exact .cons (.str _) (.cons (.int _) (.cons (.str _) .nil))
  | move a b => exact .cons (.str _) (.cons (.int _) (.cons (.int _) .nil))
  | cons a b c => exact .cons (.str _) (.cons (.int _) (.cons (.int _) (.cons (.int _) .nil)))
  | head a b => exact .cons (.str _) (.cons (.int _) (.cons (.int _) .nil))
  | tail a b => exact .cons (.str _) (.cons (.int _) (.cons (.int _) .nil))
  | jump a n => exact .cons (.str _) (.cons (.int _) (.cons (.int _) .nil))
theorem prg_dpAll : ∀ {xs : List V} {rows : List Row}, PrgL K H xs rows → DpAll K H xs (rows.map Row.d)
  | _, _, .nil => .nil
  | _, _, .cons h t => .cons (row_dp h) (prg_dpAll t)
def prgD (rows : List Row) : PyData := .list (rows.map Row.d)
theorem PrgAt.dp {a : Addr} {rows : List Row} (h : PrgAt K H a rows) : Dp K H (.ref a) (prgD rows) := by
  obtain ⟨xs, h1, h2⟩ := h
  exact .lst h1 (prg_dpAll h2)
end
theorem row_nb (r : Row) : nb r.d = true := by
  have hw : ∀ w : Str, (w.cps.all fun c => decide (c < 0x110000)) = true → nb (.str w) = true := fun _ h => h
  cases r with
  | set a t =>
    show (nb (.str ("set" : Str)) && (nb (.int a) && (nb (.str (S t.enc)) && true))) = true
    rw [hw _ (by decide +kernel), nb_S, sOk_enc]; rfl
  | move a b => show (nb (.str ("move" : Str)) && true) = true; rw [hw _ (by decide +kernel)]; rfl
  | cons a b c => show (nb (.str ("cons" : Str)) && true) = true; rw [hw _ (by decide +kernel)]; rfl
  | head a b => show (nb (.str ("head" : Str)) && true) = true; rw [hw _ (by decide +kernel)]; rfl
  | tail a b => show (nb (.str ("tail" : Str)) && true) = true; rw [hw _ (by decide +kernel)]; rfl
  | jump a n => show (nb (.str ("jump" : Str)) && true) = true; rw [hw _ (by decide +kernel)]; rfl
theorem prg_nb : ∀ rows : List Row, nbAll (rows.map Row.d) = true
  | [] => rfl
  | r :: rs => by
    show (nb r.d && nbAll (rs.map Row.d)) = true
    rw [row_nb, prg_nb rs]
    rfl
theorem row_depth (r : Row) : r.d.depth ≤ 1 := by cases r <;> simp [Row.d, Row.ds, PyData.depth, PyData.depthAll]
theorem prg_depth : ∀ rows : List Row, PyData.depthAll (rows.map Row.d) ≤ 1
  | [] => by simp [PyData.depthAll]
  | r :: rs => by
    have h1 := row_depth r
    have h2 := prg_depth rs
    rw [List.map_cons]
    simp only [PyData.depthAll]
    omega
theorem prgD_depth (rows : List Row) : (prgD rows).depth ≤ 2 := by
  have := prg_depth rows
  simp only [prgD, PyData.depth]
  omega
theorem prgD_nb (rows : List Row) : nb (prgD rows) = true := prg_nb rows
theorem prgD_shaped (rows : List Row) : SeqAt.shaped (prgD rows) = true := shaped_of (prgD_nb rows) (by have := prgD_depth rows; omega)
theorem rowD_inj {r s : Row} (h : r.d = s.d) : r = s := by
  have hw : ∀ {a b : Str}, PyData.str a = PyData.str b → a = b := fun h => PyData.str.inj h
  cases r <;> cases s <;> simp only [Row.d, Row.ds, PyData.tuple.injEq, List.cons.injEq, PyData.str.injEq, PyData.int.injEq, and_true, true_and] at h <;>
    first
    | (obtain ⟨h0, _⟩ := h; exact absurd h0 (by decide +kernel))
    | (obtain ⟨h1, h2⟩ := h; rw [enc_inj1 (S_inj h2)]; congr 1; omega)
    | (obtain ⟨h1, h2, h3⟩ := h; congr 1 <;> omega)
    | (obtain ⟨h1, h2⟩ := h; congr 1 <;> omega)
    | (exact absurd h (by simp))
theorem prgD_inj {p q : List Row} (h : prgD p = prgD q) : p = q := by
  have h' := PyData.list.inj h
  have : ∀ p q : List Row, p.map Row.d = q.map Row.d → p = q := by
    intro p
    induction p with
    | nil => intro q h; cases q with
      | nil => rfl
      | cons _ _ => simp at h
    | cons r rs ih => intro q h; cases q with
      | nil => simp at h
      | cons s ss =>
        simp only [List.map_cons, List.cons.injEq] at h
        rw [rowD_inj h.1, ih ss h.2]
  exact this p q h'
theorem prg_eqv (p q : List Row) : PyData.eqv (prgD p) (prgD q) = decide (p = q) :=
  eqv_dec (prgD_nb p) (prgD_nb q) ⟨prgD_inj, fun h => by rw [h]⟩
/-- all but what stands at D stands -/
def Kp (D : Addr) (H H' : Hp) : Prop := ∀ a o, a ≠ D → H a = some o → H' a = some o
theorem Kp.refl (D : Addr) (H : Hp) : Kp D H H := fun _ _ _ h => h
theorem Kp.trans {D : Addr} {H H1 H2 : Hp} (a : Kp D H H1) (b : Kp D H1 H2) : Kp D H H2 := fun x o h e => b x o h (a x o h e)
theorem Kp.of {D : Addr} {H H' : Hp} (e : Ex H H') : Kp D H H' := fun a o _ h => e a o h
theorem Kp.upd {D : Addr} {H H' : Hp} {o : HO} (k : Kp D H H') : Kp D H (upd H' D o) := fun a u h e => by
  rw [upd_ne h]
  exact k a u h e
theorem Kp.ex {D : Addr} {H H' : Hp} (k : Kp D H H') (n : H D = none) : Ex H H' := fun a o h => k a o (ne_of_none h n) h
theorem Kp.exx {D : Addr} {G H H' : Hp} (e : Ex G H) (k : Kp D H H') (n : G D = none) : Ex G H' := fun a o h => k a o (ne_of_none h n) (e a o h)
theorem Kp.t {K : PySem.W.Frag} {D : Addr} {H H' : Hp} {l : List V} (k : Kp D H H') (hD : H D = some (.lst l)) {a : Addr} {xs : List V} (h : SqT K H a xs) : SqT K H' a xs := by
  rcases h with (h | ⟨o, h⟩) | h
  · exact .inl (.inl (k _ _ (fun e => by rw [e, hD] at h; cases h) h))
  · exact .inl (.inr ⟨o, k _ _ (fun e => by rw [e, hD] at h; cases h) h⟩)
  · exact .inr h
theorem Kp.row {K : PySem.W.Frag} {D : Addr} {H H' : Hp} {l : List V} (k : Kp D H H') (hD : H D = some (.lst l)) {v : V} {r : Row} (h : RowAt K H v r) : RowAt K H' v r := by
  obtain ⟨p, e, h⟩ := h
  exact ⟨p, e, k.t hD h⟩
theorem Kp.prg {K : PySem.W.Frag} {D : Addr} {H H' : Hp} {l : List V} (k : Kp D H H') (hD : H D = some (.lst l)) {xs : List V} {rows : List Row} (h : PrgL K H xs rows) : PrgL K H' xs rows := Paired.mapP h fun _ _ q => k.row hD q
/-! ### good programs -/
/-- the instruction with the index at of a program of so many; registers below w -/
def OkRow (w cnt at_ : Nat) : Row → Prop
  | .jump a n => a < w ∧ 0 ≤ (at_ : Int) + n ∧ (at_ : Int) + n ≤ cnt
  | r => ∀ x ∈ r.regs, x < w
def OkPrg (w : Nat) (rows : List Row) : Prop := ∀ i r, rows[i]? = some r → OkRow w rows.length i r
theorem OkRow.regs {w cnt at_ : Nat} {r : Row} (h : OkRow w cnt at_ r) : ∀ x ∈ r.regs, x < w := by
  cases r with
  | jump a n =>
    intro x hx
    rw [List.mem_singleton.mp hx]
    exact h.1
  | _ => exact h
theorem OkPrg.regs {w : Nat} {rows : List Row} (h : OkPrg w rows) : ∀ r ∈ rows, ∀ x ∈ r.regs, x < w := fun r hr => by
  obtain ⟨i, hi, e⟩ := List.getElem_of_mem hr
  exact (h i r (by rw [List.getElem?_eq_getElem hi, e])).regs
def treesLe (n : Nat) (rows : List Row) : Prop := ∀ r ∈ rows, ∀ t, r.tree = some t → t.pairs ≤ n
/-- 1 more than the greatest register, and at least 1 -/
def regsOf (rows : List Row) : List Nat := (rows.map Row.regs).flatten
def wd (rows : List Row) : Nat := (regsOf rows).foldl (fun m r => max m (r + 1)) 1
theorem regs_le (r : Row) : r.regs.length ≤ 3 := by cases r <;> simp [Row.regs]
theorem regsOf_len (rows : List Row) : (regsOf rows).length ≤ 3 * rows.length := by
  unfold regsOf
  induction rows with
  | nil => exact Nat.zero_le _
  | cons r rs ih =>
    have := regs_le r
    rw [List.map_cons, List.flatten_cons, List.length_append, List.length_cons]
    omega
theorem regsOf_take {rows : List Row} {i : Nat} {r : Row} (h : rows[i]? = some r) : regsOf (rows.take (i + 1)) = regsOf (rows.take i) ++ r.regs := by
  unfold regsOf
  rw [take_map h, List.flatten_append, List.flatten_singleton]
theorem foldl_max_ge : ∀ (l : List Nat) (m : Nat), m ≤ l.foldl (fun m r => max m (r + 1)) m ∧ (∀ r ∈ l, r + 1 ≤ l.foldl (fun m r => max m (r + 1)) m) ∧ (l.foldl (fun m r => max m (r + 1)) m = m ∨ ∃ r ∈ l, l.foldl (fun m r => max m (r + 1)) m = r + 1)
  | [], m => ⟨Nat.le_refl _, fun _ h => by simp at h, .inl rfl⟩
  | x :: l, m => by
    obtain ⟨h1, h2, h3⟩ := foldl_max_ge l (max m (x + 1))
    rw [List.foldl_cons]
    refine ⟨by omega, fun r hr => ?_, ?_⟩
    · rcases List.mem_cons.mp hr with h | h
      · rw [h]; omega
      · exact h2 r h
    · rcases h3 with h3 | ⟨r, hr, h3⟩
      · by_cases hm : x + 1 ≤ m
        · left; rw [h3]; omega
        · right; exact ⟨x, List.mem_cons_self, by rw [h3]; omega⟩
      · right; exact ⟨r, List.mem_cons_of_mem _ hr, h3⟩
def wdF (m : Nat) (l : List Nat) : Nat := l.foldl (fun m r => max m (r + 1)) m
theorem wdF_uniq {l : List Nat} {d : Nat} {m : Int} (h : m ∈ (d : Int) :: l.map (fun (r : Nat) => (r : Int) + 1)) (hg : ∀ y, y ∈ (d : Int) :: l.map (fun (r : Nat) => (r : Int) + 1) → y ≤ m) : m = (wdF d l : Nat) := by
  obtain ⟨h1, h2, h3⟩ := foldl_max_ge l d
  have hw : (wdF d l : Int) ≤ m := by
    rcases h3 with h3 | ⟨r, hr, h3⟩
    · have := hg d List.mem_cons_self
      show ((l.foldl (fun m r => max m (r + 1)) d : Nat) : Int) ≤ m
      omega
    · have := hg ((r : Int) + 1) (List.mem_cons_of_mem _ (List.mem_map.mpr ⟨r, hr, rfl⟩))
      show ((l.foldl (fun m r => max m (r + 1)) d : Nat) : Int) ≤ m
      omega
  have hw2 : m ≤ (wdF d l : Int) := by
    show m ≤ ((l.foldl (fun m r => max m (r + 1)) d : Nat) : Int)
    rcases List.mem_cons.mp h with h | h
    · omega
    · obtain ⟨r, hr, e⟩ := List.mem_map.mp h
      have := h2 r hr
      omega
  omega
theorem wd_uniq {rows : List Row} {m : Int} (h : m ∈ (1 : Int) :: (regsOf rows).map (fun (r : Nat) => 1 + (r : Int))) (hg : ∀ y, y ∈ (1 : Int) :: (regsOf rows).map (fun (r : Nat) => 1 + (r : Int)) → y ≤ m) : m = (wd rows : Nat) := by
  obtain ⟨h1, h2, h3⟩ := foldl_max_ge (regsOf rows) 1
  have hw : (wd rows : Int) ≤ m := by
    rcases h3 with h3 | ⟨r, hr, h3⟩
    · have := hg 1 List.mem_cons_self
      show (((regsOf rows).foldl (fun m r => max m (r + 1)) 1 : Nat) : Int) ≤ m
      omega
    · have := hg (1 + (r : Int)) (List.mem_cons_of_mem _ (List.mem_map.mpr ⟨r, hr, rfl⟩))
      show (((regsOf rows).foldl (fun m r => max m (r + 1)) 1 : Nat) : Int) ≤ m
      omega
  have hw2 : m ≤ (wd rows : Int) := by
    show m ≤ (((regsOf rows).foldl (fun m r => max m (r + 1)) 1 : Nat) : Int)
    rcases List.mem_cons.mp h with h | h
    · omega
    · obtain ⟨r, hr, e⟩ := List.mem_map.mp h
      have := h2 r hr
      omega
  omega
end NV
namespace NV
open PySem PySem.Spec PyProof.Rows L2
open Evl (Ex)
/-! ### values of any kind, asked for being a program -/
theorem sql_ty {K : PySem.W.Frag} {H : Hp} {a : Addr} {xs : List V} (h : SqL K H a xs) : TyX K H (.ref a) (.type "list") := by
  rcases h with (h | ⟨o, h⟩) | ⟨o, its, n, h1, h2, _⟩
  · exact .base (.lst h)
  · exact .base (.frz h)
  · exact .kList h1 h2
theorem sqt_ty {K : PySem.W.Frag} {H : Hp} {a : Addr} {xs : List V} (h : SqT K H a xs) : TyX K H (.ref a) (.type "tuple") := by
  rcases h with (h | ⟨o, h⟩) | ⟨o, its, n, h1, h2, _⟩
  · exact .base (.tup h)
  · exact .fTuple h
  · exact .kTuple h1 h2
def wholeD : PyData → Bool
  | .int _ => true
  | _ => false
def regD : PyData → Bool
  | .int i => decide (0 ≤ i) && decide (i < 20)
  | _ => false
def treeD : PyData → Bool
  | .str s => isTr s.cps.toList
  | _ => false
def isRowD (at_ cnt : Int) : PyData → Bool
  | .tuple [.str w, a, b] =>
    if w = "set" then treeD b && regD a
    else if w = "jump" then (match b with | .int n => decide (0 ≤ at_ + n) && decide (at_ + n ≤ cnt) | _ => false) && regD a
    else if w = "move" ∨ w = "head" ∨ w = "tail" then regD a && regD b
    else false
  | .tuple [.str w, a, b, c] => if w = "cons" then regD a && (regD b && regD c) else false
  | _ => false
def rowsD (cnt : Int) : Nat → List PyData → Bool
  | _, [] => true
  | i, d :: ds => isRowD i cnt d && rowsD cnt (i + 1) ds
/-- the signs of the tree of a set -/
def setLen : PyData → Nat
  | .tuple [.str w, _, .str t] => if w = "set" then t.length else 0
  | _ => 0
def isProgD : PyData → Bool
  | .list ds => decide (ds.length ≤ 600) && (rowsD ds.length 0 ds && decide ((ds.map setLen).sum ≤ 200000))
  | _ => false
theorem dp_tr {K : PySem.W.Frag} {H : Hp} {v : V} {d : PyData} (h : Dp K H v d) (hs : ∀ s, d = .str s → s.length ≤ 10000000) : TrAns K H v (treeD d) := by
  cases h with
  | non => exact .non
  | bl b => exact .bl b
  | int i => exact .int i
  | str x =>
    obtain ⟨l, rfl⟩ := S_of x
    exact .str (hs _ rfl)
  | lst h _ => exact .lst (sql_ty h)
  | tup h _ => exact .tup (sqt_ty h)
end NV
namespace NV
open PySem PySem.Spec PyProof.Rows L2
open Evl (Ex)
theorem inV_strs (w : Str) (ws : List Str) : inV (.str w) (ws.map V.str) = decide (w ∈ ws) := by
  have h : inV (.str w) (ws.map V.str) = true ↔ w ∈ ws := by
    unfold inV
    rw [List.any_map, List.any_eq_true]
    constructor
    · rintro ⟨x, hx, e⟩
      have e' : (x == w) = true := e
      rw [← eq_of_beq e']
      exact hx
    · intro hw
      exact ⟨w, hw, show (w == w) = true from beq_self_eq_true w⟩
  by_cases q : w ∈ ws
  · rw [decide_eq_true q, h.mpr q]
  · rw [decide_eq_false q]
    cases z : inV (.str w) (ws.map V.str) with
    | false => rfl
    | true => exact absurd (h.mp z) q
def six : List Str := ["set", "move", "cons", "head", "tail", "jump"]
theorem isRowD_no {at_ cnt : Int} {d : PyData} {ds : List PyData} (h : ∀ w, d ≠ .str w) : isRowD at_ cnt (.tuple (d :: ds)) = false := by
  unfold isRowD
  split
  · rename_i w a b e
    simp only [PyData.tuple.injEq, List.cons.injEq] at e
    exact absurd e.1 (h _)
  · rename_i w a b c e
    simp only [PyData.tuple.injEq, List.cons.injEq] at e
    exact absurd e.1 (h _)
  · rfl
theorem isRowD_word {at_ cnt : Int} {w : Str} {ds : List PyData} (h : w ∉ six) : isRowD at_ cnt (.tuple (.str w :: ds)) = false := by
  have n : w ≠ "set" ∧ w ≠ "move" ∧ w ≠ "cons" ∧ w ≠ "head" ∧ w ≠ "tail" ∧ w ≠ "jump" := by
    refine ⟨?_, ?_, ?_, ?_, ?_, ?_⟩ <;> (rintro rfl; exact h (by decide +kernel))
  obtain ⟨n1, n2, n3, n4, n5, n6⟩ := n
  unfold isRowD
  split
  · rename_i e
    simp only [PyData.tuple.injEq, List.cons.injEq, PyData.str.injEq] at e
    obtain ⟨rfl, _⟩ := e
    rw [if_neg n1, if_neg n6, if_neg (by rintro (q | q | q) <;> first | exact n2 q | exact n4 q | exact n5 q)]
  · rename_i e
    simp only [PyData.tuple.injEq, List.cons.injEq, PyData.str.injEq] at e
    obtain ⟨rfl, _⟩ := e
    rw [if_neg n3]
  · rfl
theorem isRowD_len {at_ cnt : Int} {w : Str} {ds : List PyData} (h : ds.length ≠ (if w = "cons" then 3 else 2)) : isRowD at_ cnt (.tuple (.str w :: ds)) = false := by
  match ds, h with
  | [], _ => rfl
  | [_], _ => rfl
  | [a, b], h =>
    by_cases q : w = "cons"
    · subst q
      simp only [isRowD]
      rw [if_neg (by decide +kernel), if_neg (by decide +kernel), if_neg (by decide +kernel)]
    · rw [if_neg q] at h
      exact absurd rfl h
  | [a, b, c], h =>
    by_cases q : w = "cons"
    · rw [if_pos q] at h
      exact absurd rfl h
    · exact if_neg q
  | _ :: _ :: _ :: _ :: _, _ => rfl
end NV
namespace NV
open PySem PySem.Spec PyProof.Rows L2
open Evl (Ex)
theorem walk_enum {K : PySem.W.Frag} {a : Addr} {xs : List V} {B : V → Hp → (Hp → Prop) → Prop} {Qd : Hp → Prop} {H1 : Hp} (Pv : Nat → Hp → Prop) (h0 : Pv 0 H1) (hl : ∀ i H, i ≤ xs.length → Pv i H → SqL K H a xs)
    (hs : ∀ i x H T, xs[i]? = some x → Pv i H → H T = none → B (.ref T) (upd H T (.tup [.int (i : Nat), x])) (Pv (i + 1))) (hd : ∀ H, Pv xs.length H → Qd H) :
    ∃ W : Nat → Nat → Hp → Prop, (∃ m, W 0 m H1) ∧ ∀ i m H, W i m H → ((Ite K a).stop i H ∧ Qd H) ∨ ((Ite K a).go i H ∧ ∃ Nx : Hp → Prop, (∀ H', Nx H' → ∃ m', m' < m ∧ W (i + 1) m' H') ∧ ∀ x H', (Ite K a).yld i H x H' → B x H' Nx) := by
  refine ⟨fun i m h => i ≤ xs.length ∧ Pv i h ∧ i + m = xs.length, ⟨xs.length, Nat.zero_le _, h0, by omega⟩, ?_⟩
  rintro i m h ⟨hi, p, em⟩
  have q := hl i h hi p
  by_cases hlt : i < xs.length
  · refine .inr ⟨⟨xs, xs[i], q, List.getElem?_eq_getElem hlt⟩, Pv (i + 1), fun h' p' => ⟨m - 1, by omega, hlt, p', by omega⟩, ?_⟩
    rintro x h' ⟨T, y, rfl, hT, rfl, hy⟩
    exact hs i y h T (hy xs q) p hT
  · have e : i = xs.length := by omega
    subst e
    exact .inl ⟨⟨xs, q, Nat.le_refl _⟩, hd _ p⟩
def flagsD (cnt : Int) : Nat → List PyData → List Bool
  | _, [] => []
  | i, d :: ds => isRowD i cnt d :: flagsD cnt (i + 1) ds
theorem flags_snoc (cnt : Int) (d : PyData) : ∀ (xs : List PyData) (j : Nat), flagsD cnt j (xs ++ [d]) = flagsD cnt j xs ++ [isRowD ((j + xs.length : Nat) : Int) cnt d]
  | [], j => rfl
  | x :: xs, j => by
    show isRowD j cnt x :: flagsD cnt (j + 1) (xs ++ [d]) = isRowD j cnt x :: (flagsD cnt (j + 1) xs ++ _)
    rw [flags_snoc cnt d xs (j + 1), List.length_cons, show j + 1 + xs.length = j + (xs.length + 1) by omega]
theorem flags_len (cnt : Int) : ∀ (xs : List PyData) (j : Nat), (flagsD cnt j xs).length = xs.length
  | [], _ => rfl
  | x :: xs, j => by rw [flagsD, List.length_cons, List.length_cons, flags_len cnt xs]
theorem flags_all (cnt : Int) : ∀ (xs : List PyData) (j : Nat), (flagsD cnt j xs).all id = rowsD cnt j xs
  | [], _ => rfl
  | x :: xs, j => by
    show (id (isRowD j cnt x) && (flagsD cnt (j + 1) xs).all id) = _
    rw [flags_all cnt xs (j + 1)]
    rfl
theorem rowsD_get {cnt : Int} : ∀ {xs : List PyData} {j i : Nat} {d : PyData}, rowsD cnt j xs = true → xs[i]? = some d → isRowD ((j + i : Nat) : Int) cnt d = true
  | [], _, _, _, _, h => by simp at h
  | x :: xs, j, 0, d, h, e => by
    simp at e
    subst e
    have h' : (isRowD j cnt x && rowsD cnt (j + 1) xs) = true := h
    rw [Bool.and_eq_true] at h'
    exact h'.1
  | x :: xs, j, i + 1, d, h, e => by
    have h' : (isRowD j cnt x && rowsD cnt (j + 1) xs) = true := h
    rw [Bool.and_eq_true] at h'
    have := rowsD_get (j := j + 1) (i := i) h'.2 (by simpa using e)
    rw [show j + (i + 1) = j + 1 + i by omega]
    exact this
/-- the lengths of the trees of the sets -/
def setL (d : PyData) : List Int := match d with
  | .tuple [.str w, _, .str t] => if w = "set" then [(t.length : Int)] else []
  | _ => []
theorem setL_sum (ds : List PyData) : ((ds.map setL).flatten).sum = ((ds.map setLen).sum : Nat) := by
  induction ds with
  | nil => rfl
  | cons d ds ih =>
    rw [List.map_cons, List.flatten_cons, List.sum_append, ih, List.map_cons, List.sum_cons]
    have : (setL d).sum = ((setLen d : Nat) : Int) := by
      unfold setL setLen
      split
      · split
        · simp
        · rfl
      · rfl
    rw [this]
    omega
theorem row_form {at_ cnt : Int} {d : PyData} (h : isRowD at_ cnt d = true) : (∃ a t, d = .tuple [.str "set", a, .str t] ∧ t.length ≤ 200000) ∨ (∃ w ds, d = .tuple (.str w :: ds) ∧ w ≠ "set" ∧ setL d = []) := by
  unfold isRowD at h
  split at h
  · rename_i w a b
    by_cases q : w = "set"
    · subst q
      rw [if_pos rfl, Bool.and_eq_true] at h
      obtain ⟨ht, _⟩ := h
      cases b with
      | str t =>
        refine .inl ⟨a, t, rfl, ?_⟩
        have ht' : isTr t.cps.toList = true := ht
        unfold isTr at ht'
        rw [Bool.and_eq_true] at ht'
        exact of_decide_eq_true ht'.1
      | _ => cases ht
    · refine .inr ⟨w, [a, b], rfl, q, ?_⟩
      cases b with
      | str t => exact if_neg q
      | _ => rfl
  · rename_i w a b c
    by_cases q : w = "cons"
    · subst q
      exact .inr ⟨"cons", [a, b, c], rfl, by decide +kernel, by simp [setL]⟩
    · rw [if_neg q] at h
      cases h
  · cases h
end NV
namespace NV
open PySem PySem.Spec PyProof.Rows L2
open Evl (Ex)
/-! ### good programs are programs -/
/-- what is_program may be asked of -/
def askD (d : PyData) : Prop := ∀ ds, d = .list ds → (∀ a b s, PyData.tuple [a, b, .str s] ∈ ds → s.length ≤ 10000000) ∧ (∀ es, PyData.tuple es ∈ ds → es.length ≤ 1000)
theorem isRow_ok {r : Row} {at_ cnt : Nat} (h : OkRow 20 cnt at_ r) (ht : ∀ t, r.tree = some t → t.enc.length ≤ 200000) : isRowD at_ cnt r.d = true := by
  have hreg : ∀ x : Nat, x < 20 → regD (.int x) = true := fun x hx => by
    show (decide ((0 : Int) ≤ x) && decide ((x : Int) < 20)) = true
    rw [decide_eq_true (by omega), decide_eq_true (by omega)]; rfl
  cases r with
  | set a t =>
    have h1 := h a (List.mem_cons_self)
    simp only [Row.d, Row.ds, isRowD]
    rw [if_pos trivial, show treeD (.str (S t.enc)) = isTr t.enc from rfl, isTr_enc (ht t rfl), hreg a h1]; rfl
  | move a b =>
    have h1 := h a (List.mem_cons_self)
    have h2 := h b (List.mem_cons_of_mem _ List.mem_cons_self)
    simp only [Row.d, Row.ds, isRowD]
    rw [if_neg (by decide +kernel), if_neg (by decide +kernel), if_pos (by first | trivial | exact .inl trivial | exact .inr trivial | exact .inr (.inl trivial) | exact .inr (.inr trivial)), hreg a h1, hreg b h2]; rfl
  | head a b =>
    have h1 := h a (List.mem_cons_self)
    have h2 := h b (List.mem_cons_of_mem _ List.mem_cons_self)
    simp only [Row.d, Row.ds, isRowD]
    rw [if_neg (by decide +kernel), if_neg (by decide +kernel), if_pos (by first | trivial | exact .inl trivial | exact .inr trivial | exact .inr (.inl trivial) | exact .inr (.inr trivial)), hreg a h1, hreg b h2]; rfl
  | tail a b =>
    have h1 := h a (List.mem_cons_self)
    have h2 := h b (List.mem_cons_of_mem _ List.mem_cons_self)
    simp only [Row.d, Row.ds, isRowD]
    rw [if_neg (by decide +kernel), if_neg (by decide +kernel), if_pos (by first | trivial | exact .inl trivial | exact .inr trivial | exact .inr (.inl trivial) | exact .inr (.inr trivial)), hreg a h1, hreg b h2]; rfl
  | cons a b c =>
    have h1 := h a (List.mem_cons_self)
    have h2 := h b (List.mem_cons_of_mem _ List.mem_cons_self)
    have h3 := h c (List.mem_cons_of_mem _ (List.mem_cons_of_mem _ List.mem_cons_self))
    simp only [Row.d, Row.ds, isRowD]
    rw [if_pos trivial, hreg a h1, hreg b h2, hreg c h3]; rfl
  | jump a n =>
    obtain ⟨h1, h2, h3⟩ := h
    simp only [Row.d, Row.ds, isRowD]
    rw [if_neg (by decide +kernel), if_pos trivial, hreg a h1, decide_eq_true h2, decide_eq_true h3]; rfl
theorem rowsD_ok {cnt : Nat} : ∀ {rows : List Row} {j : Nat}, (∀ i r, rows[i]? = some r → OkRow 20 cnt (j + i) r) → (∀ r ∈ rows, ∀ t, r.tree = some t → t.enc.length ≤ 200000) → rowsD cnt j (rows.map Row.d) = true
  | [], _, _, _ => rfl
  | r :: rs, j, h, ht => by
    show (isRowD j cnt r.d && rowsD cnt (j + 1) (rs.map Row.d)) = true
    rw [isRow_ok (at_ := j) (h 0 r rfl) (ht r List.mem_cons_self), rowsD_ok (j := j + 1) (fun i r' e => by have := h (i + 1) r' (by simpa using e); rw [show j + 1 + i = j + (i + 1) by omega]; exact this) (fun r' h' => ht r' (List.mem_cons_of_mem _ h'))]
    rfl
theorem setLen_row (r : Row) (m : Nat) (h : ∀ t, r.tree = some t → t.enc.length ≤ m) : setLen r.d ≤ m := by
  cases r with
  | set a t =>
    show (if ("set" : Str) = "set" then (S t.enc).length else 0) ≤ m
    rw [if_pos rfl, S_len]; exact h t rfl
  | move a b => exact Nat.zero_le _
  | cons a b c => exact Nat.zero_le _
  | head a b => exact Nat.zero_le _
  | tail a b => exact Nat.zero_le _
  | jump a n => exact Nat.zero_le _
theorem sum_le {α : Type} (f : α → Nat) (m : Nat) : ∀ l : List α, (∀ x ∈ l, f x ≤ m) → (l.map f).sum ≤ m * l.length
  | [], _ => Nat.zero_le _
  | x :: l, h => by
    have h1 := h x List.mem_cons_self
    have h2 := sum_le f m l fun y q => h y (List.mem_cons_of_mem _ q)
    rw [List.map_cons, List.sum_cons, List.length_cons, Nat.mul_succ]
    omega
theorem prg_ask {rows : List Row} (h : ∀ r ∈ rows, ∀ t, r.tree = some t → t.enc.length ≤ 10000000) : askD (prgD rows) := fun ds e => by
  cases e
  refine ⟨fun a b s q => ?_, fun es q => ?_⟩
  · obtain ⟨r, hr, e⟩ := List.mem_map.mp q
    cases r with
    | set x t =>
      simp only [Row.d, Row.ds, PyData.tuple.injEq, List.cons.injEq, PyData.str.injEq] at e
      obtain ⟨_, _, rfl, _⟩ := e
      rw [S_len]
      exact h _ hr t rfl
    | move a b => simp [Row.d, Row.ds] at e
    | cons a b c => simp [Row.d, Row.ds] at e
    | head a b => simp [Row.d, Row.ds] at e
    | tail a b => simp [Row.d, Row.ds] at e
    | jump a b => simp [Row.d, Row.ds] at e
  · obtain ⟨r, hr, e⟩ := List.mem_map.mp q
    cases r <;> (simp only [Row.d, Row.ds, PyData.tuple.injEq] at e; subst e; simp)
end NV

set_option Elab.async false
set_option linter.all false
set_option maxRecDepth 100000
set_option maxHeartbeats 4000000
/-! # parts of tuples and lists, small data -/
namespace NV
open PySem PySem.Spec PyProof.Rows L2
open Evl (Ex)
/-- small data, nested less than n deep -/
def sm : Nat → PyData → Bool
  | 0, _ => false
  | n + 1, d => match d with
    | .none => true
    | .bool _ => true
    | .int _ => true
    | .str s => decide (s.length ≤ 20) && s.cps.all (· < 0x110000)
    | .list xs => decide (xs.length ≤ 100) && xs.all (sm n)
    | .tuple xs => decide (xs.length ≤ 100) && xs.all (sm n)
    | .dict _ => false
theorem sm_mono : ∀ {n m : Nat} {d : PyData}, n ≤ m → sm n d = true → sm m d = true
  | 0, _, _, _, h => by cases h
  | n + 1, 0, _, h, _ => by omega
  | n + 1, m + 1, d, h, hs => by
    have ih : ∀ xs : List PyData, xs.all (sm n) = true → xs.all (sm m) = true := fun xs hx => by
      rw [List.all_eq_true] at hx ⊢
      exact fun x q => sm_mono (by omega) (hx x q)
    cases d with
    | none => rfl
    | bool _ => rfl
    | int _ => rfl
    | str s => exact hs
    | list xs =>
      have hs' : (decide (xs.length ≤ 100) && xs.all (sm n)) = true := hs
      rw [Bool.and_eq_true] at hs'
      show (decide (xs.length ≤ 100) && xs.all (sm m)) = true
      rw [hs'.1, ih xs hs'.2]; rfl
    | tuple xs =>
      have hs' : (decide (xs.length ≤ 100) && xs.all (sm n)) = true := hs
      rw [Bool.and_eq_true] at hs'
      show (decide (xs.length ≤ 100) && xs.all (sm m)) = true
      rw [hs'.1, ih xs hs'.2]; rfl
    | dict _ => cases hs
theorem all_lay {xs : List PyData} (h : ∀ x ∈ xs, x.canLay0 = true) : PyData.canLayAll0 xs = true := by
  induction xs with
  | nil => rfl
  | cons x xs ih =>
    show (x.canLay0 && PyData.canLayAll0 xs) = true
    rw [h x List.mem_cons_self, ih fun y hy => h y (List.mem_cons_of_mem _ hy)]
    rfl
theorem all_depth {n : Nat} {xs : List PyData} (h : ∀ x ∈ xs, x.depth ≤ n) : PyData.depthAll xs ≤ n := by
  induction xs with
  | nil => simp [PyData.depthAll]
  | cons x xs ih =>
    have h1 := h x List.mem_cons_self
    have h2 := ih fun y hy => h y (List.mem_cons_of_mem _ hy)
    simp only [PyData.depthAll]
    omega
theorem sm_lay : ∀ {n : Nat} {d : PyData}, sm n d = true → d.canLay0 = true
  | 0, _, h => by cases h
  | n + 1, d, h => by
    cases d with
    | none => rfl
    | bool _ => rfl
    | int _ => rfl
    | str s =>
      have h' : (decide (s.length ≤ 20) && s.cps.all fun c => decide (c < 0x110000)) = true := h
      rw [Bool.and_eq_true] at h'
      exact h'.2
    | list xs =>
      have h' : (decide (xs.length ≤ 100) && xs.all (sm n)) = true := h
      rw [Bool.and_eq_true, List.all_eq_true] at h'
      exact all_lay fun x hx => sm_lay (h'.2 x hx)
    | tuple xs =>
      have h' : (decide (xs.length ≤ 100) && xs.all (sm n)) = true := h
      rw [Bool.and_eq_true, List.all_eq_true] at h'
      exact all_lay fun x hx => sm_lay (h'.2 x hx)
    | dict _ => cases h
theorem sm_depth : ∀ {n : Nat} {d : PyData}, sm n d = true → d.depth ≤ n
  | 0, _, h => by cases h
  | n + 1, d, h => by
    cases d with
    | none => simp [PyData.depth]
    | bool _ => simp [PyData.depth]
    | int _ => simp [PyData.depth]
    | str s => simp [PyData.depth]
    | list xs =>
      have h' : (decide (xs.length ≤ 100) && xs.all (sm n)) = true := h
      rw [Bool.and_eq_true, List.all_eq_true] at h'
      have := all_depth (n := n) fun x hx => sm_depth (h'.2 x hx)
      simp only [PyData.depth]
      omega
    | tuple xs =>
      have h' : (decide (xs.length ≤ 100) && xs.all (sm n)) = true := h
      rw [Bool.and_eq_true, List.all_eq_true] at h'
      have := all_depth (n := n) fun x hx => sm_depth (h'.2 x hx)
      simp only [PyData.depth]
      omega
    | dict _ => cases h
theorem sm_shaped {n : Nat} {d : PyData} (hn : n ≤ 64) (h : sm n d = true) : SeqAt.shaped d = true := by
  have := sm_depth h
  show (d.canLay0 && decide (d.depth ≤ 64)) = true
  rw [sm_lay h, decide_eq_true (by omega)]
  rfl
/-! ### parts -/
theorem DpAll.take {K : PySem.W.Frag} {H : Hp} : ∀ {xs : List V} {ds : List PyData} (n : Nat), DpAll K H xs ds → DpAll K H (xs.take n) (ds.take n)
  | _, _, 0, _ => .nil
  | _, _, _ + 1, .nil => .nil
  | _, _, n + 1, .cons h t => .cons h (DpAll.take n t)
theorem DpAll.drop {K : PySem.W.Frag} {H : Hp} : ∀ {xs : List V} {ds : List PyData} (n : Nat), DpAll K H xs ds → DpAll K H (xs.drop n) (ds.drop n)
  | _, _, 0, h => h
  | _, _, _ + 1, .nil => .nil
  | _, _, n + 1, .cons _ t => DpAll.drop n t
theorem DpAll.app {K : PySem.W.Frag} {H : Hp} : ∀ {xs ys : List V} {ds es : List PyData}, DpAll K H xs ds → DpAll K H ys es → DpAll K H (xs ++ ys) (ds ++ es)
  | _, _, _, _, .nil, h => h
  | _, _, _, _, .cons h t, h' => .cons h (DpAll.app t h')
/-- a tuple at q of these data -/
def TupD (K : PySem.W.Frag) (H : Hp) (q : Addr) (es : List PyData) : Prop := ∃ ys, SqT K H q ys ∧ DpAll K H ys es
def LstD (K : PySem.W.Frag) (H : Hp) (q : Addr) (es : List PyData) : Prop := ∃ ys, H q = some (.lst ys) ∧ DpAll K H ys es
theorem TupD.mono {K : PySem.W.Frag} {H H' : Hp} (e : Ex H H') {q : Addr} {es : List PyData} (h : TupD K H q es) : TupD K H' q es := by
  obtain ⟨ys, h1, h2⟩ := h
  exact ⟨ys, Evl.ex_t e h1, DpAll.mono e _ h2⟩
theorem LstD.mono {K : PySem.W.Frag} {H H' : Hp} (e : Ex H H') {q : Addr} {es : List PyData} (h : LstD K H q es) : LstD K H' q es := by
  obtain ⟨ys, h1, h2⟩ := h
  exact ⟨ys, e _ _ h1, DpAll.mono e _ h2⟩
theorem TupD.dp {K : PySem.W.Frag} {H : Hp} {q : Addr} {es : List PyData} (h : TupD K H q es) : Dp K H (.ref q) (.tuple es) := by
  obtain ⟨ys, h1, h2⟩ := h
  exact .tup h1 h2
theorem LstD.dp {K : PySem.W.Frag} {H : Hp} {q : Addr} {es : List PyData} (h : LstD K H q es) : Dp K H (.ref q) (.list es) := by
  obtain ⟨ys, h1, h2⟩ := h
  exact .lst (.of h1) h2
def cutD (ds : List PyData) (lo hi : Option Int) : List PyData := (ds.drop (HT.sIx ds.length 0 lo)).take (HT.sIx ds.length ds.length hi - HT.sIx ds.length 0 lo)
theorem DpAll.cut {K : PySem.W.Frag} {H : Hp} {xs : List V} {ds : List PyData} (h : DpAll K H xs ds) (lo hi : Option Int) : DpAll K H (cutV xs lo hi) (cutD ds lo hi) := by
  unfold cutV cutD
  rw [DpAll.len h]
  exact DpAll.take _ (DpAll.drop _ h)
theorem cutD_mem {ds : List PyData} {lo hi : Option Int} : ∀ d ∈ cutD ds lo hi, d ∈ ds := fun d h => List.mem_of_mem_drop (List.mem_of_mem_take h)
theorem cutD_len (ds : List PyData) (lo hi : Option Int) : (cutD ds lo hi).length ≤ ds.length := by
  unfold cutD
  rw [List.length_take, List.length_drop]
  omega
theorem cut_tup {K : PySem.W.Frag} {H : Hp} {a : Addr} {ds : List PyData} {lo hi : Option Int} {Q : VK} (h : TupD K H a ds) (k : ∀ q H', Ex H H' → TupD K H' q (cutD ds lo hi) → Q (.ref q) H') : rSlL K (.ref a) lo hi H Q ∨ rSlA K (.ref a) lo hi H Q := by
  obtain ⟨xs, hx, hd⟩ := h
  have hl := DpAll.len hd
  refine .inr ⟨a, xs, rfl, hx, fun w => k a H (Ex.refl H) ⟨xs, hx, ?_⟩, fun _ q nq => k q _ (Evl.Ex.new nq) ⟨_, .of upd_same, DpAll.cut (DpAll.mono (Evl.Ex.new nq) _ hd) lo hi⟩⟩
  have : cutD ds lo hi = ds := by
    unfold cutD
    rw [← hl, w.1, w.2, hl]
    simp
  rw [this]
  exact hd
theorem cut_lst {K : PySem.W.Frag} {H : Hp} {a : Addr} {xs : List V} {ds : List PyData} {lo hi : Option Int} {Q : VK} (hx : SqL K H a xs) (hd : DpAll K H xs ds) (k : ∀ q H', Ex H H' → LstD K H' q (cutD ds lo hi) → Q (.ref q) H') : rSlL K (.ref a) lo hi H Q ∨ rSlA K (.ref a) lo hi H Q :=
  .inl ⟨a, xs, rfl, hx, fun q nq => k q _ (Evl.Ex.new nq) ⟨_, upd_same, DpAll.cut (DpAll.mono (Evl.Ex.new nq) _ hd) lo hi⟩⟩
theorem cat_tup {K : PySem.W.Frag} {H : Hp} {a b : Addr} {ds es : List PyData} {Q : VK} (h1 : TupD K H a ds) (h2 : TupD K H b es) (hl : ds.length + es.length ≤ 10000) (k : ∀ q H', Ex H H' → TupD K H' q (ds ++ es) → Q (.ref q) H') : rCat (.ref a) (.ref b) H Q ∨ rCatA K (.ref a) (.ref b) H Q := by
  obtain ⟨xs, hx, hd⟩ := h1
  obtain ⟨ys, hy, he⟩ := h2
  have l1 := DpAll.len hd
  have l2 := DpAll.len he
  refine .inr ⟨a, b, xs, ys, rfl, rfl, hx, hy, Nat.le_trans (by omega) (show 10000 ≤ sizeLine by decide), fun e => ?_, fun _ e => ?_, fun _ _ q nq => k q _ (Evl.Ex.new nq) ⟨_, .of upd_same, DpAll.app (DpAll.mono (Evl.Ex.new nq) _ hd) (DpAll.mono (Evl.Ex.new nq) _ he)⟩⟩
  · subst e
    cases hd
    exact k b H (Ex.refl H) ⟨ys, hy, he⟩
  · subst e
    cases he
    refine k a H (Ex.refl H) ⟨xs, hx, ?_⟩
    rw [List.append_nil]
    exact hd
theorem cat_lst {K : PySem.W.Frag} {H : Hp} {a b : Addr} {ds es : List PyData} {Q : VK} (h1 : LstD K H a ds) (h2 : LstD K H b es) (hl : ds.length + es.length ≤ 100000) (k : ∀ q H', Ex H H' → LstD K H' q (ds ++ es) → Q (.ref q) H') : rCat (.ref a) (.ref b) H Q ∨ rCatA K (.ref a) (.ref b) H Q := by
  obtain ⟨xs, hx, hd⟩ := h1
  obtain ⟨ys, hy, he⟩ := h2
  have l1 := DpAll.len hd
  have l2 := DpAll.len he
  exact .inl ⟨a, b, xs, ys, rfl, rfl, hx, hy, Nat.le_trans (by omega) (show 100000 ≤ sizeLine by decide), fun q nq => k q _ (Evl.Ex.new nq) ⟨_, upd_same, DpAll.app (DpAll.mono (Evl.Ex.new nq) _ hd) (DpAll.mono (Evl.Ex.new nq) _ he)⟩⟩
theorem ex_none {H H' : Hp} {a : Addr} (e : Ex H H') (h : H' a = none) : H a = none := by
  cases q : H a with
  | none => rfl
  | some o => rw [e _ _ q] at h; cases h
theorem for_enumS {K : PySem.W.Frag} {a : Addr} {xs : List V} {g : TG} {tb : TS} {D : Ends} {σ : L2.St} {H : Hp} (Pv : Nat → L2.St → Hp → Prop) (h0 : Pv 0 σ H) (hl : ∀ i σ H, i ≤ xs.length → Pv i σ H → SqL K H a xs)
    (hs : ∀ i x σ H T, xs[i]? = some x → Pv i σ H → H T = none → g (.ref T) σ (upd H T (.tup [.int (i : Nat), x])) fun σ2 H2 => tb { D with nx := Pv (i + 1), ct := Pv (i + 1), bk := D.nx } σ2 H2) (hd : ∀ σ H, Pv xs.length σ H → D.nx σ H) :
    ∃ W : Nat → Nat → L2.St → Hp → Prop, (∃ m, W 0 m σ H) ∧ ∀ i m σ H, W i m σ H →
      ((Ite K a).stop i H ∧ D.nx σ H) ∨ ((Ite K a).go i H ∧ ∃ N : L2.St → Hp → Prop, (∀ σ' H', N σ' H' → ∃ m', m' < m ∧ W (i + 1) m' σ' H') ∧ ∀ x H', (Ite K a).yld i H x H' → g x σ H' fun σ2 H2 => tb { D with nx := N, ct := N, bk := D.nx } σ2 H2) := by
  refine ⟨fun i m σ h => i ≤ xs.length ∧ Pv i σ h ∧ i + m = xs.length, ⟨xs.length, Nat.zero_le _, h0, by omega⟩, ?_⟩
  rintro i m σ h ⟨hi, p, em⟩
  have q := hl i σ h hi p
  by_cases hlt : i < xs.length
  · refine .inr ⟨⟨xs, xs[i], q, List.getElem?_eq_getElem hlt⟩, Pv (i + 1), fun σ' h' p' => ⟨m - 1, by omega, hlt, p', by omega⟩, ?_⟩
    rintro x h' ⟨T, y, rfl, hT, rfl, hy⟩
    exact hs i y σ h T (hy xs q) p hT
  · have e : i = xs.length := by omega
    subst e
    exact .inl ⟨⟨xs, q, Nat.le_refl _⟩, hd _ _ p⟩
def clean (w : Nat) : List Row := (List.range (w - 1)).map fun k => Row.set (k + 1) .l
def link (i : Nat) (rows : List Row) : List Row := if i = 0 then rows else clean (wd rows) ++ rows
def chainR : Nat → List (List Row) → List Row
  | _, [] => []
  | i, p :: ps => link i p ++ chainR (i + 1) ps
theorem chainR_snoc (p : List Row) : ∀ (ps : List (List Row)) (j : Nat), chainR j (ps ++ [p]) = chainR j ps ++ link (j + ps.length) p
  | [], j => by
    show link j p ++ [] = [] ++ link (j + 0) p
    rw [List.append_nil]; rfl
  | q :: ps, j => by
    show link j q ++ chainR (j + 1) (ps ++ [p]) = (link j q ++ chainR (j + 1) ps) ++ link (j + (ps.length + 1)) p
    rw [chainR_snoc p ps (j + 1), List.append_assoc, show j + 1 + ps.length = j + (ps.length + 1) by omega]
theorem chainR_len : ∀ (ps : List (List Row)) (j : Nat), (∀ rows ∈ ps, rows.length ≤ 100 ∧ wd rows ≤ 16) → (chainR j ps).length ≤ 200 * ps.length
  | [], _, _ => Nat.zero_le _
  | p :: ps, j, h => by
    have h1 := h p List.mem_cons_self
    have h2 := chainR_len ps (j + 1) fun r hr => h r (List.mem_cons_of_mem _ hr)
    have h3 : (link j p).length ≤ 200 := by
      unfold link clean
      split
      · omega
      · rw [List.length_append, List.length_map, List.length_range]; omega
    show (link j p ++ chainR (j + 1) ps).length ≤ 200 * (ps.length + 1)
    rw [List.length_append]
    omega
/-- lists of programs -/
abbrev Progs (K : PySem.W.Frag) (H : Hp) : List V → List (List Row) → Prop := Paired fun v rows => ∃ q xs, v = .ref q ∧ H q = some (.lst xs) ∧ PrgL K H xs rows
theorem Progs.mono {K : PySem.W.Frag} {H H' : Hp} (e : Ex H H') {ps : List V} {progs : List (List Row)} (h : Progs K H ps progs) : Progs K H' ps progs := Paired.mapP h fun _ _ ⟨q, xs, h1, h2, h3⟩ => ⟨q, xs, h1, e _ _ h2, PrgL.mono e h3⟩
/-! ### programs put together -/
theorem OkRow.mono {w w' c i : Nat} {r : Row} (hw : w ≤ w') (h : OkRow w c i r) : OkRow w' c i r := by
  cases r with
  | jump a n => exact ⟨Nat.lt_of_lt_of_le h.1 hw, h.2⟩
  | _ => exact fun x hx => Nat.lt_of_lt_of_le (h x hx) hw
theorem OkPrg.mono {w w' : Nat} {p : List Row} (hw : w ≤ w') (h : OkPrg w p) : OkPrg w' p := fun i r e => (h i r e).mono hw
theorem OkRow.shift {w c i c' i' : Nat} {r : Row} (h : OkRow w c i r) (h1 : i ≤ i') (h2 : c + i' ≤ c' + i) : OkRow w c' i' r := by
  cases r with
  | jump a n =>
    obtain ⟨q1, q2, q3⟩ := h
    exact ⟨q1, by omega, by omega⟩
  | _ => exact h
theorem okPrg_app {w : Nat} {p q : List Row} (hp : OkPrg w p) (hq : OkPrg w q) : OkPrg w (p ++ q) := fun i r e => by
  by_cases hi : i < p.length
  · rw [List.getElem?_append_left hi] at e
    exact (hp i r e).shift (Nat.le_refl _) (by rw [List.length_append]; omega)
  · rw [List.getElem?_append_right (by omega)] at e
    exact (hq _ r e).shift (by omega) (by rw [List.length_append]; omega)
theorem okPrg_clean {w : Nat} (m : Nat) (h : m ≤ w) : OkPrg w (clean m) := fun i r e => by
  obtain ⟨k, hk, rfl⟩ := map_get e
  have := List.mem_range.mp (mem_of_get hk)
  intro x hx
  rw [List.mem_singleton.mp hx]
  omega
theorem wd_le {w : Nat} {p : List Row} (hw : 1 ≤ w) (h : ∀ r ∈ p, ∀ x ∈ r.regs, x < w) : wd p ≤ w := by
  rcases (foldl_max_ge (regsOf p) 1).2.2 with e | ⟨r, hr, e⟩
  · unfold wd; omega
  · obtain ⟨l, hl, hr'⟩ := List.mem_flatten.mp hr
    obtain ⟨row, hrow, rfl⟩ := List.mem_map.mp hl
    have := h row hrow r hr'
    unfold wd
    omega
theorem okPrg_chain {w : Nat} (hw : 1 ≤ w) : ∀ (ps : List (List Row)) (j : Nat), (∀ p ∈ ps, OkPrg w p) → OkPrg w (chainR j ps)
  | [], _, _ => fun i r e => by simp [chainR] at e
  | p :: ps, j, h => by
    have hp := h p List.mem_cons_self
    refine okPrg_app ?_ (okPrg_chain hw ps (j + 1) fun q hq => h q (List.mem_cons_of_mem _ hq))
    unfold link
    split
    · exact hp
    · exact okPrg_app (okPrg_clean _ (wd_le hw hp.regs)) hp
theorem trees_app {n : Nat} {p q : List Row} (hp : treesLe n p) (hq : treesLe n q) : treesLe n (p ++ q) := fun r hr => by
  rcases List.mem_append.mp hr with h | h
  · exact hp r h
  · exact hq r h
theorem trees_clean (n m : Nat) : treesLe n (clean m) := fun r hr t e => by
  obtain ⟨k, _, rfl⟩ := List.mem_map.mp hr
  cases e
  exact Nat.zero_le _
theorem trees_chain {n : Nat} : ∀ (ps : List (List Row)) (j : Nat), (∀ p ∈ ps, treesLe n p) → treesLe n (chainR j ps)
  | [], _, _ => fun r hr => by simp [chainR] at hr
  | p :: ps, j, h => by
    have hp := h p List.mem_cons_self
    refine trees_app ?_ (trees_chain ps (j + 1) fun q hq => h q (List.mem_cons_of_mem _ hq))
    unfold link
    split
    · exact hp
    · exact trees_app (trees_clean _ _) hp
/-- a good program with small trees, not too long, answers is_program -/
theorem prog_ok {n : Nat} {rows : List Row} (h : OkPrg 20 rows) (hl : rows.length ≤ 600) (ht : treesLe n rows) (hn : (2 * n + 1) * rows.length ≤ 200000) (hn2 : n ≤ 99999) : isProgD (prgD rows) = true := by
  have hl' : (rows.map Row.d).length = rows.length := List.length_map _
  have htl : ∀ r ∈ rows, ∀ t, r.tree = some t → t.enc.length ≤ 2 * n + 1 := fun r hr t e => by
    have := ht r hr t e
    have := t.enc_len
    omega
  have hs := sum_le setLen (2 * n + 1) (rows.map Row.d) fun d hd => by
    obtain ⟨r, hr, rfl⟩ := List.mem_map.mp hd
    exact setLen_row r _ (htl r hr)
  show (decide ((rows.map Row.d).length ≤ 600) && (rowsD ((rows.map Row.d).length : Nat) 0 (rows.map Row.d) && decide (((rows.map Row.d).map setLen).sum ≤ 200000))) = true
  rw [decide_eq_true (by omega), decide_eq_true (by rw [hl'] at hs; omega), hl', rowsD_ok (fun i r e => by rw [Nat.zero_add]; exact h i r e) (fun r hr t e => by have := htl r hr t e; omega)]
  rfl
end NV

set_option Elab.async false
set_option linter.all false
set_option maxRecDepth 100000
set_option maxHeartbeats 4000000
/-! # values without a heap: what a def does, told over plain data -/
namespace NV
open PySem PySem.Spec PyProof.Rows L2
open Evl (Ex)
inductive D where
  | non
  | bl (b : Bool)
  | int (i : Int)
  | str (l : List Nat)
  | ty (n : String)
  | lst (ds : List D)
  | tup (ds : List D)
  | strm
  | scr
/-- a list that the top has left -/
def Kn (K : PySem.W.Frag) (a : Addr) (xs : List V) : Prop := ∃ (o : Obj) (its : Array Value) (n : Nat), K.lookup a = some o ∧ o.cls = .type "list" ∧ o.dict = none ∧ o.data = .seq its n ∧ its.size ≤ sizeLine ∧ Vals xs its.toList
mutual
def Dx (K : PySem.W.Frag) (M : Addr → Prop) (H : Hp) : D → V → Prop
  | .non, v => v = .non
  | .bl b, v => v = .bl b
  | .int i, v => v = .int i
  | .str l, v => v = .str (S l)
  | .ty n, v => v = .ty n
  | .lst ds, v => ∃ a xs, v = .ref a ∧ ¬ M a ∧ H a = some (.lst xs) ∧ DxAll K M H ds xs
  | .tup ds, v => ∃ a xs, v = .ref a ∧ SqT K H a xs ∧ DxAll K M H ds xs
  | .strm, v => ∃ p q ns, v = .ref p ∧ ¬ M p ∧ ¬ M q ∧ H p = some (.ext (Strm p q)) ∧ H q = some (.lst (List.map V.int ns))
  | .scr, v => ∃ a ns, v = .ref a ∧ ((¬ M a ∧ Rd H a (.lst (List.map V.int ns))) ∨ Kn K a (List.map V.int ns)) ∧ ns.length ≤ 63
def DxAll (K : PySem.W.Frag) (M : Addr → Prop) (H : Hp) : List D → List V → Prop
  | [], xs => xs = []
  | d :: ds, xs => ∃ x r, xs = x :: r ∧ Dx K M H d x ∧ DxAll K M H ds r
end
/-- what stands outside of M stands, and so do the tuples -/
structure Kx (K : PySem.W.Frag) (M : Addr → Prop) (H H' : Hp) : Prop where
  k : ∀ b o, ¬ M b → H b = some o → H' b = some o
  t : ∀ b xs, SqT K H b xs → SqT K H' b xs
section
variable {K : PySem.W.Frag} {M M' : Addr → Prop} {H H' H1 H2 : Hp}
theorem Kx.ex (e : Ex H H') : Kx K M H H' := ⟨fun b o _ h => e b o h, fun b xs h => Evl.ex_t e h⟩
theorem Kx.refl : Kx K M H H := Kx.ex (Evl.Ex.refl H)
theorem Kx.trans (a : Kx K M H H1) (b : Kx K M H1 H2) : Kx K M H H2 :=
  ⟨fun x o n h => b.k x o n (a.k x o n h), fun x xs h => b.t x xs (a.t x xs h)⟩
theorem Kx.weak (a : Kx K M H H') (h : ∀ b, M b → M' b) : Kx K M' H H' := ⟨fun x o n q => a.k x o (fun z => n (h x z)) q, a.t⟩
theorem Kx.upd {a : Addr} {l : List V} {o : HO} (ma : M a) (hl : H a = some (.lst l)) : Kx K M H (upd H a o) := by
  refine ⟨fun b u n h => ?_, fun b xs h => ?_⟩
  · rw [upd_ne (fun e => n (by rw [e]; exact ma))]; exact h
  · rcases h with (h | ⟨u, h⟩) | h
    · refine .inl (.inl ?_); rw [upd_ne (fun e => by rw [e, hl] at h; cases h)]; exact h
    · refine .inl (.inr ⟨u, ?_⟩); rw [upd_ne (fun e => by rw [e, hl] at h; cases h)]; exact h
    · exact .inr h
theorem Kx.rd (k : Kx K M H H') {a : Addr} {u : HO} (n : ¬ M a) (h : Rd H a u) : Rd H' a u := by
  rcases h with h | ⟨o, h⟩
  · exact .inl (k.k _ _ n h)
  · exact .inr ⟨o, k.k _ _ n h⟩
mutual
theorem Dx.kx (k : Kx K M H H') : ∀ (d : D) {v : V}, Dx K M H d v → Dx K M H' d v
  | .non, _, h => h
  | .bl _, _, h => h
  | .int _, _, h => h
  | .str _, _, h => h
  | .ty _, _, h => h
  | .lst ds, _, h => by
    obtain ⟨a, xs, e, n, h1, h2⟩ := h
    exact ⟨a, xs, e, n, k.k _ _ n h1, DxAll.kx k ds h2⟩
  | .tup ds, _, h => by
    obtain ⟨a, xs, e, h1, h2⟩ := h
    exact ⟨a, xs, e, k.t _ _ h1, DxAll.kx k ds h2⟩
  | .strm, _, h => by
    obtain ⟨p, q, ns, e, n1, n2, h1, h2⟩ := h
    exact ⟨p, q, ns, e, n1, n2, k.k _ _ n1 h1, k.k _ _ n2 h2⟩
  | .scr, _, h => by
    obtain ⟨a, ns, e, h1, h2⟩ := h
    exact ⟨a, ns, e, h1.imp (fun z => ⟨z.1, k.rd z.1 z.2⟩) id, h2⟩
theorem DxAll.kx (k : Kx K M H H') : ∀ (ds : List D) {vs : List V}, DxAll K M H ds vs → DxAll K M H' ds vs
  | [], _, h => h
  | d :: ds, _, h => by
    obtain ⟨x, r, e, h1, h2⟩ := h
    exact ⟨x, r, e, Dx.kx k d h1, DxAll.kx k ds h2⟩
end
mutual
/-- fewer are masked -/
theorem Dx.less (k : ∀ b, M' b → M b) : ∀ (d : D) {v : V}, Dx K M H d v → Dx K M' H d v
  | .non, _, h => h
  | .bl _, _, h => h
  | .int _, _, h => h
  | .str _, _, h => h
  | .ty _, _, h => h
  | .lst ds, _, h => by
    obtain ⟨a, xs, e, n, h1, h2⟩ := h
    exact ⟨a, xs, e, fun z => n (k _ z), h1, DxAll.less k ds h2⟩
  | .tup ds, _, h => by
    obtain ⟨a, xs, e, h1, h2⟩ := h
    exact ⟨a, xs, e, h1, DxAll.less k ds h2⟩
  | .strm, _, h => by
    obtain ⟨p, q, ns, e, n1, n2, h1, h2⟩ := h
    exact ⟨p, q, ns, e, fun z => n1 (k _ z), fun z => n2 (k _ z), h1, h2⟩
  | .scr, _, h => by
    obtain ⟨a, ns, e, h1, h2⟩ := h
    exact ⟨a, ns, e, h1.imp (fun z => ⟨fun q => z.1 (k _ q), z.2⟩) id, h2⟩
theorem DxAll.less (k : ∀ b, M' b → M b) : ∀ (ds : List D) {vs : List V}, DxAll K M H ds vs → DxAll K M' H ds vs
  | [], _, h => h
  | d :: ds, _, h => by
    obtain ⟨x, r, e, h1, h2⟩ := h
    exact ⟨x, r, e, Dx.less k d h1, DxAll.less k ds h2⟩
end
/-- one more is masked -/
def M1 (M : Addr → Prop) (p : Addr) : Addr → Prop := fun b => M b ∨ b = p
theorem M1.no {M : Addr → Prop} {p a : Addr} (h : ¬ M a) (n : a ≠ p) : ¬ M1 M p a := fun z => Or.elim z h n
mutual
theorem Dx.more {p : Addr} (n : H p = none) : ∀ (d : D) {v : V}, Dx K M H d v → Dx K (M1 M p) H d v
  | .non, _, h => h
  | .bl _, _, h => h
  | .int _, _, h => h
  | .str _, _, h => h
  | .ty _, _, h => h
  | .lst ds, _, h => by
    obtain ⟨a, xs, e, m, h1, h2⟩ := h
    exact ⟨a, xs, e, M1.no m (ne_of_none h1 n), h1, DxAll.more n ds h2⟩
  | .tup ds, _, h => by
    obtain ⟨a, xs, e, h1, h2⟩ := h
    exact ⟨a, xs, e, h1, DxAll.more n ds h2⟩
  | .strm, _, h => by
    obtain ⟨p, q, ns, e, n1, n2, h1, h2⟩ := h
    exact ⟨p, q, ns, e, M1.no n1 (ne_of_none h1 n), M1.no n2 (ne_of_none h2 n), h1, h2⟩
  | .scr, _, h => by
    obtain ⟨a, ns, e, h1, h2⟩ := h
    refine ⟨a, ns, e, h1.imp (fun z => ⟨M1.no z.1 ?_, z.2⟩) id, h2⟩
    rcases z.2 with h | ⟨o, h⟩
    · exact ne_of_none h n
    · exact ne_of_none h n
theorem DxAll.more {p : Addr} (n : H p = none) : ∀ (ds : List D) {vs : List V}, DxAll K M H ds vs → DxAll K (M1 M p) H ds vs
  | [], _, h => h
  | d :: ds, _, h => by
    obtain ⟨x, r, e, h1, h2⟩ := h
    exact ⟨x, r, e, Dx.more n d h1, DxAll.more n ds h2⟩
end
def MU (M M' : Addr → Prop) : Addr → Prop := fun b => M b ∨ M' b
theorem MU.no {o : HO} (k : ∀ b, M' b → M b ∨ H b = none) {a : Addr} (n : ¬ M a) (h : H a = some o) : ¬ MU M M' a := fun z => by
  rcases z with z | z
  · exact n z
  · rcases k _ z with z | z
    · exact n z
    · rw [z] at h; cases h
mutual
theorem Dx.mask (k : ∀ b, M' b → M b ∨ H b = none) : ∀ (d : D) {v : V}, Dx K M H d v → Dx K (MU M M') H d v
  | .non, _, h => h
  | .bl _, _, h => h
  | .int _, _, h => h
  | .str _, _, h => h
  | .ty _, _, h => h
  | .lst ds, _, h => by
    obtain ⟨a, xs, e, n, h1, h2⟩ := h
    exact ⟨a, xs, e, MU.no k n h1, h1, DxAll.mask k ds h2⟩
  | .tup ds, _, h => by
    obtain ⟨a, xs, e, h1, h2⟩ := h
    exact ⟨a, xs, e, h1, DxAll.mask k ds h2⟩
  | .strm, _, h => by
    obtain ⟨p, q, ns, e, n1, n2, h1, h2⟩ := h
    exact ⟨p, q, ns, e, MU.no k n1 h1, MU.no k n2 h2, h1, h2⟩
  | .scr, _, h => by
    obtain ⟨a, ns, e, h1, h2⟩ := h
    refine ⟨a, ns, e, h1.imp (fun z => ⟨?_, z.2⟩) id, h2⟩
    rcases z.2 with h | ⟨o, h⟩
    · exact MU.no k z.1 h
    · exact MU.no k z.1 h
theorem DxAll.mask (k : ∀ b, M' b → M b ∨ H b = none) : ∀ (ds : List D) {vs : List V}, DxAll K M H ds vs → DxAll K (MU M M') H ds vs
  | [], _, h => h
  | d :: ds, _, h => by
    obtain ⟨x, r, e, h1, h2⟩ := h
    exact ⟨x, r, e, Dx.mask k d h1, DxAll.mask k ds h2⟩
end
theorem DxAll.keep {ds : List D} {vs : List V} (c : ∀ b, M' b → M b ∨ H b = none) (k : Kx K M H H') (r : DxAll K M H ds vs) : DxAll K M' H' ds vs :=
  DxAll.less (fun _ z => .inr z) ds (DxAll.kx (k.weak fun _ z => .inl z) ds (DxAll.mask c ds r))
theorem DxAll.len : ∀ {ds : List D} {vs : List V}, DxAll K M H ds vs → vs.length = ds.length
  | [], _, h => by cases h; rfl
  | d :: ds, _, h => by
    obtain ⟨x, r, rfl, h1, h2⟩ := h
    rw [List.length_cons, List.length_cons, DxAll.len h2]
theorem DxAll.app : ∀ {ds es : List D} {vs ws : List V}, DxAll K M H ds vs → DxAll K M H es ws → DxAll K M H (ds ++ es) (vs ++ ws)
  | [], _, _, _, h, h' => by cases h; exact h'
  | d :: ds, _, _, _, h, h' => by
    obtain ⟨x, r, rfl, h1, h2⟩ := h
    exact ⟨x, _, rfl, h1, DxAll.app h2 h'⟩
theorem DxAll.get : ∀ {ds : List D} {vs : List V} {i : Nat} {d : D}, DxAll K M H ds vs → ds[i]? = some d → ∃ v, vs[i]? = some v ∧ Dx K M H d v
  | [], _, _, _, _, e => by simp at e
  | d :: ds, _, 0, _, h, e => by
    obtain ⟨x, r, rfl, h1, h2⟩ := h
    simp at e; subst e
    exact ⟨x, rfl, h1⟩
  | d :: ds, _, i + 1, _, h, e => by
    obtain ⟨x, r, rfl, h1, h2⟩ := h
    obtain ⟨v, e1, e2⟩ := DxAll.get (i := i) h2 (by simpa using e)
    exact ⟨v, by simpa using e1, e2⟩
theorem DxAll.get' : ∀ {ds : List D} {vs : List V} {i : Nat} {v : V}, DxAll K M H ds vs → vs[i]? = some v → ∃ d, ds[i]? = some d ∧ Dx K M H d v
  | [], _, _, _, h, e => by cases h; simp at e
  | d :: ds, _, 0, _, h, e => by
    obtain ⟨x, r, rfl, h1, h2⟩ := h
    simp at e; subst e
    exact ⟨d, rfl, h1⟩
  | d :: ds, _, i + 1, _, h, e => by
    obtain ⟨x, r, rfl, h1, h2⟩ := h
    obtain ⟨v, e1, e2⟩ := DxAll.get' (i := i) h2 (by simpa using e)
    exact ⟨v, by simpa using e1, e2⟩
theorem DxAll.take : ∀ {ds : List D} {vs : List V} (n : Nat), DxAll K M H ds vs → DxAll K M H (ds.take n) (vs.take n)
  | _, _, 0, _ => by rw [List.take_zero, List.take_zero]; rfl
  | [], _, n + 1, h => by cases h; rfl
  | d :: ds, _, n + 1, h => by
    obtain ⟨x, r, rfl, h1, h2⟩ := h
    exact ⟨x, _, rfl, h1, DxAll.take n h2⟩
theorem DxAll.drop : ∀ {ds : List D} {vs : List V} (n : Nat), DxAll K M H ds vs → DxAll K M H (ds.drop n) (vs.drop n)
  | _, _, 0, h => h
  | [], _, n + 1, h => by cases h; rfl
  | d :: ds, _, n + 1, h => by
    obtain ⟨x, r, rfl, h1, h2⟩ := h
    exact DxAll.drop n h2
theorem DxAll.set : ∀ {ds : List D} {vs : List V} (n : Nat) {d : D} {v : V}, DxAll K M H ds vs → Dx K M H d v → DxAll K M H (ds.set n d) (vs.set n v)
  | [], _, _, _, _, h, _ => by cases h; rfl
  | d :: ds, _, 0, _, _, h, h' => by
    obtain ⟨x, r, rfl, h1, h2⟩ := h
    exact ⟨_, r, rfl, h', h2⟩
  | d :: ds, _, n + 1, _, _, h, h' => by
    obtain ⟨x, r, rfl, h1, h2⟩ := h
    exact ⟨x, _, rfl, h1, DxAll.set n h2 h'⟩
theorem DxAll.dropLast : ∀ {ds : List D} {vs : List V}, DxAll K M H ds vs → DxAll K M H ds.dropLast vs.dropLast := fun {ds vs} h => by
  rw [List.dropLast_eq_take, List.dropLast_eq_take, DxAll.len h]
  exact DxAll.take _ h
theorem DxAll.rep {d : D} {v : V} (h : Dx K M H d v) : ∀ n : Nat, DxAll K M H (List.replicate n d) (List.replicate n v)
  | 0 => rfl
  | n + 1 => ⟨v, _, rfl, h, DxAll.rep h n⟩
theorem DxAll.reps {ds : List D} {vs : List V} (h : DxAll K M H ds vs) : ∀ n : Nat, DxAll K M H (List.replicate n ds).flatten (List.replicate n vs).flatten
  | 0 => rfl
  | n + 1 => by
    rw [List.replicate_succ, List.replicate_succ, List.flatten_cons, List.flatten_cons]
    exact DxAll.app h (DxAll.reps h n)
theorem DxAll.rev : ∀ {ds : List D} {vs : List V}, DxAll K M H ds vs → DxAll K M H ds.reverse vs.reverse
  | [], _, h => by cases h; rfl
  | d :: ds, _, h => by
    obtain ⟨x, r, rfl, h1, h2⟩ := h
    rw [List.reverse_cons, List.reverse_cons]
    exact DxAll.app (DxAll.rev h2) ⟨x, [], rfl, h1, rfl⟩
theorem dxi : ∀ {ns : List Int}, DxAll K M H (ns.map D.int) (ns.map V.int)
  | [] => rfl
  | n :: ns => ⟨_, _, rfl, rfl, dxi⟩
theorem dxb : ∀ {ns : List Bool}, DxAll K M H (ns.map D.bl) (ns.map V.bl)
  | [] => rfl
  | n :: ns => ⟨_, _, rfl, rfl, dxb⟩
theorem dxi_eq : ∀ {ns : List Int} {vs : List V}, DxAll K M H (ns.map D.int) vs → vs = ns.map V.int
  | [], _, h => h
  | n :: ns, _, h => by
    obtain ⟨x, r, rfl, h1, h2⟩ := h
    rw [List.map_cons, dxi_eq h2]
    have : x = .int n := h1
    rw [this]
theorem dxb_eq : ∀ {ns : List Bool} {vs : List V}, DxAll K M H (ns.map D.bl) vs → vs = ns.map V.bl
  | [], _, h => h
  | n :: ns, _, h => by
    obtain ⟨x, r, rfl, h1, h2⟩ := h
    rw [List.map_cons, dxb_eq h2]
    have : x = .bl n := h1
    rw [this]
theorem dxs_eq : ∀ {ls : List (List Nat)} {vs : List V}, DxAll K M H (ls.map D.str) vs → vs = (ls.map S).map V.str
  | [], _, h => h
  | n :: ns, _, h => by
    obtain ⟨x, r, rfl, h1, h2⟩ := h
    rw [List.map_cons, List.map_cons, dxs_eq h2]
    have : x = .str (S n) := h1
    rw [this]
theorem dxs : ∀ {ls : List (List Nat)}, DxAll K M H (ls.map D.str) ((ls.map S).map V.str)
  | [] => rfl
  | n :: ns => ⟨_, _, rfl, rfl, dxs⟩
/-- a value, or a list of the def's own that is seen for a moment -/
def DxS (K : PySem.W.Frag) (M : Addr → Prop) (H : Hp) (d : D) (v : V) : Prop := Dx K M H d v ∨ ∃ ds a xs, d = .lst ds ∧ v = .ref a ∧ H a = some (.lst xs) ∧ DxAll K M H ds xs
theorem DxS.lst {ds : List D} {v : V} (h : DxS K M H (.lst ds) v) : ∃ a xs, v = .ref a ∧ H a = some (.lst xs) ∧ DxAll K M H ds xs := by
  rcases h with ⟨a, xs, e, _, h1, h2⟩ | ⟨ds, a, xs, e, h⟩
  · exact ⟨a, xs, e, h1, h2⟩
  · cases e; exact ⟨a, xs, h⟩
theorem DxS.val {d : D} {v : V} (h : DxS K M H d v) (n : ∀ ds, d ≠ .lst ds) : Dx K M H d v := by
  rcases h with h | ⟨ds, _, _, e, _⟩
  · exact h
  · exact absurd e (n ds)
theorem DxS.ex (e : Ex H H') {d : D} {v : V} (h : DxS K M H d v) : DxS K M H' d v := by
  rcases h with h | ⟨ds, a, xs, e1, e2, h1, h2⟩
  · exact .inl (Dx.kx (Kx.ex e) d h)
  · exact .inr ⟨ds, a, xs, e1, e2, e _ _ h1, DxAll.kx (Kx.ex e) ds h2⟩
theorem Dx.ex (e : Ex H H') {d : D} {v : V} (h : Dx K M H d v) : Dx K M H' d v := Dx.kx (Kx.ex e) d h
theorem DxAll.ex (e : Ex H H') {d : List D} {v : List V} (h : DxAll K M H d v) : DxAll K M H' d v := DxAll.kx (Kx.ex e) d h
end
end NV

set_option Elab.async false
set_option linter.all false
set_option maxRecDepth 100000
set_option maxHeartbeats 4000000
/-! # what is reckoned: outcomes over plain data -/
namespace NV
open PySem PySem.Spec PyProof.Rows L2
open Evl (Ex)
/-- what must hold so that each outcome is as wished: q of a value, e of an exception's class -/
structure W (α : Type) where
  run : (α → Prop) → (Str → Prop) → Prop
  mono : ∀ {q q' : α → Prop} {e e' : Str → Prop}, (∀ a, q a → q' a) → (∀ n, e n → e' n) → run q e → run q' e'
namespace W
variable {α β : Type}
def ok (a : α) : W α := ⟨fun q _ => q a, fun h _ z => h a z⟩
def stuck : W α := ⟨fun _ _ => False, fun _ _ z => z⟩
def exc (n : Str) : W α := ⟨fun _ e => e n, fun _ h z => h n z⟩
def bind (m : W α) (f : α → W β) : W β := ⟨fun q e => m.run (fun a => (f a).run q e) e, fun hq he z => m.mono (fun a => (f a).mono hq he) he z⟩
def chk (p : Prop) (m : W α) : W α := ⟨fun q e => p ∧ m.run q e, fun hq he z => ⟨z.1, m.mono hq he z.2⟩⟩
def ite (b : Bool) (m n : W α) : W α := ⟨fun q e => if b = true then m.run q e else n.run q e, fun hq he z => by
  cases b with
  | true => exact m.mono hq he z
  | false => exact n.mono hq he z⟩
/-- any of these -/
def any (P : α → Prop) : W α := ⟨fun q _ => ∀ a, P a → q a, fun hq _ z a p => hq a (z a p)⟩
end W
/-- what a draw answers -/
def dDraw (m : Int) : W D := .chk (0 < m ∧ m < 1000000) (.bind (.any fun v : Int => 0 ≤ v ∧ v < m) fun v => .ok (.int v))
section
variable (K : PySem.W.Frag) (M : Addr → Prop) (H : Hp) (Q : VK)
def PostV : D → Prop := fun d => ∀ v H', Ex H H' → Dx K M H' d v → Q v H'
def PostS : D → Prop := fun d => ∀ v H', Ex H H' → DxS K M H' d v → Q v H'
/-- a new list -/
def PostF : D → Prop := fun d => ∃ ds, d = .lst ds ∧ ∀ a xs H', Ex H H' → H a = none → H' a = some (.lst xs) → DxAll K (M1 M a) H' ds xs → Q (.ref a) H'
end
inductive Md where
  | v | s | f
def Post (K : PySem.W.Frag) (M : Addr → Prop) (H : Hp) (Q : VK) : Md → D → Prop
  | .v => PostV K M H Q
  | .s => PostS K M H Q
  | .f => PostF K M H Q
/-! ### equality -/
mutual
def eqD : D → D → Bool
  | .non, .non => true
  | .bl a, .bl b => a == b
  | .bl a, .int j => (if a then 1 else 0) == j
  | .int i, .bl b => i == (if b then 1 else 0)
  | .int i, .int j => i == j
  | .str x, .str y => decide (x = y)
  | .lst xs, .lst ys => eqAll xs ys
  | .tup xs, .tup ys => eqAll xs ys
  | _, _ => false
def eqAll : List D → List D → Bool
  | [], [] => true
  | x :: xs, y :: ys => eqD x y && eqAll xs ys
  | _, _ => false
end
mutual
def D.py : D → PyData
  | .non => .none
  | .bl b => .bool b
  | .int i => .int i
  | .str l => .str (S l)
  | .lst ds => .list (pyAll ds)
  | .tup ds => .tuple (pyAll ds)
  | _ => .none
def pyAll : List D → List PyData
  | [] => []
  | d :: ds => d.py :: pyAll ds
end
mutual
/-- no deeper than n, no special thing within, good signs -/
def D.flat : D → Nat → Bool
  | .non, _ => true
  | .bl _, _ => true
  | .int _, _ => true
  | .str l, _ => sOk l
  | .lst _, 0 => false
  | .lst ds, n + 1 => flatAll ds n
  | .tup _, 0 => false
  | .tup ds, n + 1 => flatAll ds n
  | .ty _, _ => false
  | .strm, _ => false
  | .scr, _ => false
def flatAll : List D → Nat → Bool
  | [], _ => true
  | d :: ds, n => d.flat n && flatAll ds n
end
def D.scal : D → Bool
  | .non => true
  | .bl _ => true
  | .int _ => true
  | .str _ => true
  | _ => false
mutual
theorem flat_lay : ∀ (d : D) (n : Nat), d.flat n = true → d.py.canLay0 = true
  | .non, _, _ => rfl
  | .bl _, _, _ => rfl
  | .int _, _, _ => rfl
  | .str l, _, h => by
    have := nb_S l
    rw [show sOk l = true from h] at this
    exact this
  | .lst ds, n + 1, h => flatAll_lay ds n h
  | .tup ds, n + 1, h => flatAll_lay ds n h
theorem flatAll_lay : ∀ (ds : List D) (n : Nat), flatAll ds n = true → PyData.canLayAll0 (pyAll ds) = true
  | [], _, _ => rfl
  | d :: ds, n, h => by
    have h' : (d.flat n && flatAll ds n) = true := h
    rw [Bool.and_eq_true] at h'
    show (d.py.canLay0 && PyData.canLayAll0 (pyAll ds)) = true
    rw [flat_lay d n h'.1, flatAll_lay ds n h'.2]; rfl
end
mutual
theorem flat_depth : ∀ (d : D) (n : Nat), d.flat n = true → d.py.depth ≤ n
  | .non, _, _ => by simp [D.py, PyData.depth]
  | .bl _, _, _ => by simp [D.py, PyData.depth]
  | .int _, _, _ => by simp [D.py, PyData.depth]
  | .str l, _, h => by simp [D.py, PyData.depth]
  | .lst ds, n + 1, h => by
    have := flatAll_depth ds n h
    simp only [D.py, PyData.depth]
    omega
  | .tup ds, n + 1, h => by
    have := flatAll_depth ds n h
    simp only [D.py, PyData.depth]
    omega
theorem flatAll_depth : ∀ (ds : List D) (n : Nat), flatAll ds n = true → PyData.depthAll (pyAll ds) ≤ n
  | [], _, _ => by simp [pyAll, PyData.depthAll]
  | d :: ds, n, h => by
    have h' : (d.flat n && flatAll ds n) = true := h
    rw [Bool.and_eq_true] at h'
    have h1 := flat_depth d n h'.1
    have h2 := flatAll_depth ds n h'.2
    simp only [pyAll, PyData.depthAll]
    omega
end
theorem flat_shaped {d : D} {n : Nat} (h : d.flat n = true) (hn : n ≤ 64) : SeqAt.shaped d.py = true := by
  have := flat_depth d n h
  show (d.py.canLay0 && decide (d.py.depth ≤ 64)) = true
  rw [flat_lay d n h, decide_eq_true (by omega)]; rfl
mutual
theorem eqv_py : ∀ (d e : D) (n m : Nat), d.flat n = true → e.flat m = true → PyData.eqv d.py e.py = eqD d e
  | .non, e, _, m, _, he => by
    cases e <;> first | rfl | (exfalso; exact Bool.noConfusion he)
  | .bl b, e, _, m, _, he => by
    cases e <;> first | rfl | (exfalso; exact Bool.noConfusion he)
  | .int i, e, _, m, _, he => by
    cases e <;> first | rfl | (exfalso; exact Bool.noConfusion he)
  | .str l, e, _, m, _, he => by
    cases e with
    | str r =>
      show (S l == S r) = decide (l = r)
      by_cases q : l = r
      · rw [q, decide_eq_true rfl]; exact beq_self_eq_true _
      · rw [decide_eq_false q]
        exact beq_eq_false_iff_ne.mpr fun z => q (S_inj z)
    | _ => first | rfl | (exfalso; exact Bool.noConfusion he)
  | .lst ds, e, n + 1, m, hd, he => by
    cases e with
    | lst es =>
      cases m with
      | zero => exact Bool.noConfusion he
      | succ m => exact eqvAll_py ds es n m hd he
    | _ => first | rfl | (exfalso; exact Bool.noConfusion he)
  | .tup ds, e, n + 1, m, hd, he => by
    cases e with
    | tup es =>
      cases m with
      | zero => exact Bool.noConfusion he
      | succ m => exact eqvAll_py ds es n m hd he
    | _ => first | rfl | (exfalso; exact Bool.noConfusion he)
theorem eqvAll_py : ∀ (ds es : List D) (n m : Nat), flatAll ds n = true → flatAll es m = true → PyData.eqvAll (pyAll ds) (pyAll es) = eqAll ds es
  | [], [], _, _, _, _ => rfl
  | [], _ :: _, _, _, _, _ => rfl
  | _ :: _, [], _, _, _, _ => rfl
  | d :: ds, e :: es, n, m, hd, he => by
    have hd' : (d.flat n && flatAll ds n) = true := hd
    have he' : (e.flat m && flatAll es m) = true := he
    rw [Bool.and_eq_true] at hd' he'
    show (PyData.eqv d.py e.py && PyData.eqvAll (pyAll ds) (pyAll es)) = (eqD d e && eqAll ds es)
    rw [eqv_py d e n m hd'.1 he'.1, eqvAll_py ds es n m hd'.2 he'.2]
end
section
variable {K : PySem.W.Frag} {M : Addr → Prop} {H : Hp}
mutual
theorem Dx.dp : ∀ (d : D) (n : Nat) {v : V}, d.flat n = true → Dx K M H d v → Dp K H v d.py
  | .non, _, _, _, h => by cases h; exact .non
  | .bl b, _, _, _, h => by cases h; exact .bl b
  | .int i, _, _, _, h => by cases h; exact .int i
  | .str l, _, _, _, h => by cases h; exact .str _
  | .lst ds, n + 1, _, f, h => by
    obtain ⟨a, xs, rfl, _, h1, h2⟩ := h
    exact .lst (.of h1) (DxAll.dp ds n f h2)
  | .tup ds, n + 1, _, f, h => by
    obtain ⟨a, xs, rfl, h1, h2⟩ := h
    exact .tup h1 (DxAll.dp ds n f h2)
theorem DxAll.dp : ∀ (ds : List D) (n : Nat) {vs : List V}, flatAll ds n = true → DxAll K M H ds vs → DpAll K H vs (pyAll ds)
  | [], _, _, _, h => by cases h; exact .nil
  | d :: ds, n, _, f, h => by
    have f' : (d.flat n && flatAll ds n) = true := f
    rw [Bool.and_eq_true] at f'
    obtain ⟨x, r, rfl, h1, h2⟩ := h
    exact .cons (Dx.dp d n f'.1 h1) (DxAll.dp ds n f'.2 h2)
end
theorem DxS.dp {d : D} {n : Nat} {v : V} (f : d.flat n = true) (h : DxS K M H d v) : Dp K H v d.py := by
  rcases h with h | ⟨ds, a, xs, rfl, rfl, h1, h2⟩
  · exact Dx.dp d n f h
  · cases n with
    | zero => exact Bool.noConfusion f
    | succ n => exact .lst (.of h1) (DxAll.dp ds n f h2)
end
theorem b_ite (a : Bool) : b2i a = if a = true then 1 else 0 := by cases a <;> rfl
def dEqv (d e : D) : W Bool := .ite (d.scal && e.scal) (.ok (eqD d e)) (.chk (d.flat 64 = true ∧ e.flat 64 = true) (.ok (eqD d e)))
theorem dEqv_run {d e : D} {q : Bool → Prop} {x : Str → Prop} (h : (dEqv d e).run q x) : q (eqD d e) ∧ ((d.scal = true ∧ e.scal = true) ∨ (d.flat 64 = true ∧ e.flat 64 = true)) := by
  have h' : if (d.scal && e.scal) = true then q (eqD d e) else ((d.flat 64 = true ∧ e.flat 64 = true) ∧ q (eqD d e)) := h
  by_cases c : (d.scal && e.scal) = true
  · rw [if_pos c] at h'
    rw [Bool.and_eq_true] at c
    exact ⟨h', .inl c⟩
  · rw [if_neg c] at h'
    exact ⟨h'.2, .inr h'.1⟩
section
variable {K : PySem.W.Frag} {M : Addr → Prop} {H : Hp}
theorem scal_eq {d e : D} {v w : V} (hd : d.scal = true) (he : e.scal = true) (h1 : DxS K M H d v) (h2 : DxS K M H e w) :
    (scal v w = true ∧ decide (v = w) = eqD d e) ∨ (scal v w = false ∧ d.flat 64 = true ∧ e.flat 64 = true) := by
  have g1 := h1.val (fun ds e => by rw [e] at hd; cases hd)
  have g2 := h2.val (fun ds q => by rw [q] at he; cases he)
  cases d <;> first | (cases hd; done) | skip
  all_goals (cases e <;> first | (cases he; done) | skip)
  all_goals (cases g1; cases g2)
  all_goals first
    | (exact .inl ⟨rfl, dec_bl⟩)
    | (exact .inl ⟨rfl, dec_int⟩)
    | (exact .inr ⟨rfl, rfl, rfl⟩)
    | (exact .inl ⟨rfl, rfl⟩)
    | (exact .inl ⟨rfl, decide_eq_false (fun q => nomatch q)⟩)
    | skip
  · rename_i a b
    refine .inl ⟨rfl, ?_⟩
    show decide (V.str (S a) = V.str (S b)) = decide (a = b)
    by_cases q : a = b
    · rw [q, decide_eq_true rfl, decide_eq_true rfl]
    · rw [decide_eq_false q, decide_eq_false]
      intro z
      exact q (S_inj (V.str.inj z))
theorem rEq_of {d e : D} {v w : V} {Q : VK} {x : Str → Prop} (h1 : DxS K M H d v) (h2 : DxS K M H e w) (h : (dEqv d e).run (fun b => Q (.bl b) H) x) : rEqU K v w H Q := by
  obtain ⟨q, c⟩ := dEqv_run h
  have deep : scal v w = false → (d.flat 64 = true ∧ e.flat 64 = true) → rEqU K v w H Q := fun hs f => by
    unfold rEqU
    rw [hs]
    refine ⟨_, _, h1.dp f.1, h2.dp f.2, flat_shaped f.1 (Nat.le_refl _), flat_shaped f.2 (Nat.le_refl _), ?_⟩
    rw [eqv_py d e 64 64 f.1 f.2]
    exact q
  have shal : d.scal = true → e.scal = true → rEqU K v w H Q := fun a b => by
    rcases scal_eq a b h1 h2 with ⟨s, e⟩ | ⟨s, f⟩
    · unfold rEqU
      rw [s]
      show Q (.bl (decide (v = w))) H
      rw [e]; exact q
    · exact deep s f
  rcases c with ⟨a, b⟩ | f
  · exact shal a b
  · by_cases a : d.scal = true
    · by_cases b : e.scal = true
      · exact shal a b
      · refine deep ?_ f
        have g1 := h1.val (fun ds e => by rw [e] at a; cases a)
        rcases h2 with h2 | ⟨ds, p, xs, rfl, rfl, _⟩
        · cases e <;> first | (exact absurd rfl b) | skip
          all_goals first
            | (obtain ⟨p, xs, rfl, _⟩ := h2; cases d <;> first | (cases a; done) | (cases g1; rfl))
            | (cases f.2)
        · cases d <;> first | (cases a; done) | (cases g1; rfl)
    · refine deep ?_ f
      rcases h1 with h1 | ⟨ds, p, xs, rfl, rfl, _⟩
      · cases d <;> first | (exact absurd rfl a) | skip
        all_goals first
          | (obtain ⟨p, xs, rfl, _⟩ := h1; rfl)
          | (cases f.1)
      · rfl
theorem rNe_of {d e : D} {v w : V} {Q : VK} {x : Str → Prop} (h1 : DxS K M H d v) (h2 : DxS K M H e w) (h : (dEqv d e).run (fun b => Q (.bl (!b)) H) x) : rNeU K v w H Q := by
  have g := rEq_of (Q := fun b H' => ∀ c, b = .bl c → Q (.bl (!c)) H') h1 h2 ((dEqv d e).mono (fun b h c e => by cases e; exact h) (fun _ h => h) h)
  unfold rEqU at g
  unfold rNeU
  cases s : scal v w with
  | true => rw [s] at g; exact g _ rfl
  | false =>
    rw [s] at g
    obtain ⟨a, b, c1, c2, c3, c4, q⟩ := g
    exact ⟨a, b, c1, c2, c3, c4, q _ rfl⟩
end
end NV

set_option Elab.async false
set_option linter.all false
set_option maxRecDepth 100000
set_option maxHeartbeats 4000000
/-! # expressions over plain data -/
namespace NV
open PySem PySem.Spec PyProof.Rows L2
open Evl (Ex)
/-- what is masked is there -/
def Mk (M : Addr → Prop) (H : Hp) : Prop := ∀ a, M a → ∃ xs, H a = some (.lst xs)
theorem Mk.ex {M : Addr → Prop} {H H' : Hp} (m : Mk M H) (e : Ex H H') : Mk M H' := fun a h => by
  obtain ⟨xs, q⟩ := m a h
  exact ⟨xs, e _ _ q⟩
theorem Mk.no {M : Addr → Prop} {H : Hp} (m : Mk M H) {a : Addr} (n : H a = none) : ¬ M a := fun h => by
  obtain ⟨xs, q⟩ := m a h
  rw [n] at q; cases q
section
variable {K : PySem.W.Frag} {M : Addr → Prop} {H H' : Hp} {Q : VK} {m : Md}
theorem Post.use {d : D} {v : V} (h : Post K M H Q m d) (e : Ex H H') (r : Dx K M H' d v) (n : ∀ ds, d ≠ .lst ds) : Q v H' := by
  cases m with
  | v => exact h v H' e r
  | s => exact h v H' e (.inl r)
  | f =>
    obtain ⟨ds, rfl, _⟩ := h
    exact absurd rfl (n ds)
theorem Post.now {d : D} {v : V} (h : Post K M H Q m d) (r : Dx K M H d v) (n : ∀ ds, d ≠ .lst ds) : Q v H := h.use (Evl.Ex.refl H) r n
theorem Post.bl {b : Bool} (h : Post K M H Q m (.bl b)) : Q (.bl b) H := h.now rfl (fun _ q => nomatch q)
theorem Post.int {b : Int} (h : Post K M H Q m (.int b)) : Q (.int b) H := h.now rfl (fun _ q => nomatch q)
theorem Post.str {b : List Nat} (h : Post K M H Q m (.str b)) : Q (.str (S b)) H := h.now rfl (fun _ q => nomatch q)
/-- a new list -/
theorem Post.newl {ds : List D} {a : Addr} {xs : List V} (mk : Mk M H) (h : Post K M H Q m (.lst ds)) (n : H a = none) (r : DxAll K M H ds xs) : Q (.ref a) (upd H a (.lst xs)) := by
  have e := Evl.Ex.new (o := .lst xs) n
  have dx : Dx K M (upd H a (.lst xs)) (.lst ds) (.ref a) := ⟨a, xs, rfl, mk.no n, upd_same, r.ex e⟩
  cases m with
  | v => exact h _ _ e dx
  | s => exact h _ _ e (.inl dx)
  | f =>
    obtain ⟨ds', q, k⟩ := h
    cases q
    exact k a xs _ e n upd_same ((DxAll.more n ds r).ex e)
theorem Post.newt {ds : List D} {a : Addr} {xs : List V} (h : Post K M H Q m (.tup ds)) (n : H a = none) (r : DxAll K M H ds xs) : Q (.ref a) (upd H a (.tup xs)) := by
  have e := Evl.Ex.new (o := .tup xs) n
  exact h.use e ⟨a, xs, rfl, .of upd_same, r.ex e⟩ (fun _ q => nomatch q)
theorem Post.mono {d : D} (e : Ex H H') (h : Post K M H Q m d) : Post K M H' Q m d := by
  cases m with
  | v => exact fun v H2 e2 r => h v H2 (e.trans e2) r
  | s => exact fun v H2 e2 r => h v H2 (e.trans e2) r
  | f =>
    obtain ⟨ds, q, k⟩ := h
    exact ⟨ds, q, fun a xs H2 e2 n r1 r2 => k a xs H2 (e.trans e2) (Evl.fresh_back e n) r1 r2⟩
end
/-! ### operations -/
def RD (K : PySem.W.Frag) (m : Md) (r : R2) (f : D → D → W D) : Prop := ∀ (M : Addr → Prop) (H : Hp) (x y : D) (v w : V) (Q : VK) (e : Str → Prop), Mk M H → DxS K M H x v → DxS K M H y w → (f x y).run (Post K M H Q m) e → r v w H Q
def RU1 (K : PySem.W.Frag) (m : Md) (r : V → Hp → VK → Prop) (f : D → W D) : Prop := ∀ (M : Addr → Prop) (H : Hp) (x : D) (v : V) (Q : VK) (e : Str → Prop), Mk M H → DxS K M H x v → (f x).run (Post K M H Q m) e → r v H Q
def dAdd : D → D → W D
  | .int i, .int j => .ok (.int (i + j))
  | .int i, .bl k => .ok (.int (i + b2i k))
  | .str a, .str b => .chk (a.length + b.length ≤ 16777216) (.ok (.str (a ++ b)))
  | .lst xs, .lst ys => .chk (xs.length + ys.length ≤ 16777216) (.ok (.lst (xs ++ ys)))
  | .tup xs, .tup ys => .chk (xs.length + ys.length ≤ 16777216) (.ok (.tup (xs ++ ys)))
  | _, _ => .stuck
section
variable {K : PySem.W.Frag} {m : Md}
theorem rd_add : RD K m (rAddU K) dAdd := by
  intro M H x y v w Q e mk hx hy h
  cases x <;> cases y <;> first | (exact False.elim h) | skip
  · cases hx.val (fun _ q => nomatch q); cases hy.val (fun _ q => nomatch q)
    exact Post.now h rfl (fun _ q => nomatch q)
  · cases hx.val (fun _ q => nomatch q); cases hy.val (fun _ q => nomatch q)
    exact Post.now h rfl (fun _ q => nomatch q)
  · cases hx.val (fun _ q => nomatch q); cases hy.val (fun _ q => nomatch q)
    refine ⟨h.1, ?_⟩
    rw [S_append]
    exact Post.str h.2
  · obtain ⟨a, xs, rfl, h1, h2⟩ := hx.lst
    obtain ⟨b, ys, rfl, g1, g2⟩ := hy.lst
    have l1 := DxAll.len h2
    have l2 := DxAll.len g2
    exact .inl ⟨a, b, xs, ys, rfl, rfl, h1, g1, by have := h.1; show _ ≤ 16777216; omega, fun p np => Post.newl mk h.2 np (DxAll.app h2 g2)⟩
  · obtain ⟨a, xs, rfl, h1, h2⟩ := hx.val (fun _ q => nomatch q)
    obtain ⟨b, ys, rfl, g1, g2⟩ := hy.val (fun _ q => nomatch q)
    have l1 := DxAll.len h2
    have l2 := DxAll.len g2
    refine .inr ⟨a, b, xs, ys, rfl, rfl, h1, g1, by have := h.1; show _ ≤ 16777216; omega, fun e => ?_, fun _ e => ?_, fun _ _ p np => Post.newt h.2 np (DxAll.app h2 g2)⟩
    · exact Post.now h.2 ⟨b, ys, rfl, g1, by have := DxAll.app h2 g2; rw [e] at this; exact this⟩ (fun _ q => nomatch q)
    · exact Post.now h.2 ⟨a, xs, rfl, h1, by have := DxAll.app h2 g2; rw [e, List.append_nil] at this; exact this⟩ (fun _ q => nomatch q)
end
def dSub : D → D → W D
  | .int i, .int j => .ok (.int (i - j))
  | _, _ => .stuck
def dMul : D → D → W D
  | .int i, .int j => .chk (CMul i j) (.ok (.int (i * j)))
  | .str a, .int n => .chk (-(2 ^ 63) < n ∧ n < 2 ^ 62 ∧ a.length * n.toNat ≤ 10000000) (.ok (.str (List.replicate n.toNat a).flatten))
  | .lst xs, .int n => .chk (-(2 ^ 63) ≤ n ∧ n < 2 ^ 63 ∧ xs.length * n.toNat ≤ 16777216) (.ok (.lst (List.replicate n.toNat xs).flatten))
  | .tup xs, .int n => .chk (xs ≠ [] ∧ 2 ≤ n ∧ n ≤ 1000 ∧ xs.length ≤ 1000) (.ok (.tup (List.replicate n.toNat xs).flatten))
  | _, _ => .stuck
def dDiv : D → D → W D
  | .int i, .int j => .chk (CDiv i j) (.ok (.int (i / j)))
  | _, _ => .stuck
def dMod : D → D → W D
  | .int i, .int j => .chk (0 < j) (.ok (.int (i % j)))
  | _, _ => .stuck
def dNeg : D → W D
  | .int i => .ok (.int (-i))
  | _ => .stuck
def dEq (x y : D) : W D := (dEqv x y).bind fun b => .ok (.bl b)
def dNe (x y : D) : W D := (dEqv x y).bind fun b => .ok (.bl (!b))
def dCI (p : Int → Int → Bool) : D → D → W D
  | .int i, .int j => .ok (.bl (p i j))
  | _, _ => .stuck
def dIs : D → D → W D
  | .bl a, .bl b => .ok (.bl (decide (a = b)))
  | .non, .non => .ok (.bl true)
  | .bl _, .non => .ok (.bl false)
  | .int _, .non => .ok (.bl false)
  | .str _, .non => .ok (.bl false)
  | .lst _, .non => .ok (.bl false)
  | .tup _, .non => .ok (.bl false)
  | _, _ => .stuck
def dIsNot (x y : D) : W D := (dIs x y).bind fun
  | .bl b => .ok (.bl (!b))
  | _ => .stuck
def D.flat0 : D → Bool
  | .non => true
  | .bl _ => true
  | .int _ => true
  | .str _ => true
  | _ => false
def dInB : D → D → W Bool
  | .str [c], .str z => .ok (decide (c ∈ z))
  | x, .lst ys => .chk (x.flat0 = true ∧ ys.all D.flat0 = true) (.ok (ys.any fun y => eqD y x))
  | x, .tup ys => .chk (x.flat0 = true ∧ ys.all D.flat0 = true) (.ok (ys.any fun y => eqD y x))
  | _, _ => .stuck
def dIn (x y : D) : W D := (dInB x y).bind fun b => .ok (.bl b)
def dNotIn (x y : D) : W D := (dInB x y).bind fun b => .ok (.bl (!b))
/-- x in a tuple of tuples -/
def dInD : D → D → W D
  | x, .tup ys => .chk (x.flat 64 = true ∧ (D.tup ys).flat 64 = true) (.ok (.bl (ys.any fun y => eqD y x)))
  | _, _ => .stuck
def dIx : D → D → W D
  | .str z, .int i => .chk (z.length ≤ 16777216) (match atI z i with
    | some c => .ok (.str [c])
    | none => .stuck)
  | .lst xs, .int i => (match atI xs i with
    | some d => .ok d
    | none => .stuck)
  | .tup xs, .int i => (match atI xs i with
    | some d => .ok d
    | none => .stuck)
  | _, _ => .stuck
def cutL {α : Type} (l : List α) (lo hi : Option Int) : List α := (l.drop (HT.sIx l.length 0 lo)).take (HT.sIx l.length l.length hi - HT.sIx l.length 0 lo)
def dSl : D → Option Int → Option Int → W D
  | .str z, lo, hi => .chk (z.length ≤ 16777216) (.ok (.str (cutL z lo hi)))
  | .lst xs, lo, hi => .ok (.lst (cutL xs lo hi))
  | .tup xs, lo, hi => .ok (.tup (cutL xs lo hi))
  | _, _, _ => .stuck
section
variable {K : PySem.W.Frag} {m : Md}
theorem rd_sub : RD K m rSubU dSub := by
  intro M H x y v w Q e mk hx hy h
  cases x <;> cases y <;> first | (exact False.elim h) | skip
  cases hx.val (fun _ q => nomatch q); cases hy.val (fun _ q => nomatch q)
  exact Post.now h rfl (fun _ q => nomatch q)
theorem rd_mul : RD K m (rMulU K) dMul := by
  intro M H x y v w Q e mk hx hy h
  cases x <;> cases y <;> first | (exact False.elim h) | skip
  · cases hx.val (fun _ q => nomatch q); cases hy.val (fun _ q => nomatch q)
    exact ⟨h.1, Post.now h.2 rfl (fun _ q => nomatch q)⟩
  · cases hx.val (fun _ q => nomatch q); cases hy.val (fun _ q => nomatch q)
    exact ⟨h.1, Post.now h.2 rfl (fun _ q => nomatch q)⟩
  · obtain ⟨a, xs, rfl, h1, h2⟩ := hx.lst
    cases hy.val (fun _ q => nomatch q)
    have l1 := DxAll.len h2
    exact .inl ⟨a, _, xs, rfl, rfl, h1, h.1.1, h.1.2.1, by rw [l1]; exact h.1.2.2, fun p np => Post.newl mk h.2 np (DxAll.reps h2 _)⟩
  · obtain ⟨a, xs, rfl, h1, h2⟩ := hx.val (fun _ q => nomatch q)
    cases hy.val (fun _ q => nomatch q)
    have l1 := DxAll.len h2
    refine .inr ⟨a, _, xs, rfl, rfl, h1, fun e => ?_, h.1.2.1, h.1.2.2.1, by rw [l1]; exact h.1.2.2.2, fun p np => Post.newt h.2 np (DxAll.reps h2 _)⟩
    rw [e] at l1
    exact h.1.1 (List.length_eq_zero_iff.mp l1.symm)
theorem rd_div : RD K m rDivU dDiv := by
  intro M H x y v w Q e mk hx hy h
  cases x <;> cases y <;> first | (exact False.elim h) | skip
  cases hx.val (fun _ q => nomatch q); cases hy.val (fun _ q => nomatch q)
  exact ⟨h.1, Post.now h.2 rfl (fun _ q => nomatch q)⟩
theorem rd_mod : RD K m rModU dMod := by
  intro M H x y v w Q e mk hx hy h
  cases x <;> cases y <;> first | (exact False.elim h) | skip
  cases hx.val (fun _ q => nomatch q); cases hy.val (fun _ q => nomatch q)
  exact ⟨h.1, Post.now h.2 rfl (fun _ q => nomatch q)⟩
theorem ru_neg : RU1 K m (rU fun i => .int (-i)) dNeg := by
  intro M H x v Q e mk hx h
  cases x <;> first | (exact False.elim h) | skip
  cases hx.val (fun _ q => nomatch q)
  exact ⟨_, rfl, Post.now h rfl (fun _ q => nomatch q)⟩
theorem rd_eq : RD K m (rEqU K) dEq := by
  intro M H x y v w Q e mk hx hy h
  exact rEq_of hx hy ((dEqv x y).mono (fun b h => Post.bl h) (fun _ z => z) h)
theorem rd_ne : RD K m (rNeU K) dNe := by
  intro M H x y v w Q e mk hx hy h
  exact rNe_of hx hy ((dEqv x y).mono (fun b h => Post.bl h) (fun _ z => z) h)
theorem rd_ci {p : Int → Int → Bool} : RD K m (rCI p) (dCI p) := by
  intro M H x y v w Q e mk hx hy h
  cases x <;> cases y <;> first | (exact False.elim h) | skip
  cases hx.val (fun _ q => nomatch q); cases hy.val (fun _ q => nomatch q)
  exact Post.now h rfl (fun _ q => nomatch q)
theorem rd_is : RD K m rIsU dIs := by
  intro M H x y v w Q e mk hx hy h
  cases x <;> cases y <;> first | (exact False.elim h) | skip
  all_goals cases hy.val (fun _ q => nomatch q)
  all_goals first
    | (cases hx.val (fun _ q => nomatch q); exact Post.now h rfl (fun _ q => nomatch q))
    | (obtain ⟨a, xs, rfl, _⟩ := hx.lst; exact Post.now h rfl (fun _ q => nomatch q))
    | (obtain ⟨a, xs, rfl, _⟩ := hx.val (fun _ q => nomatch q); exact Post.now h rfl (fun _ q => nomatch q))
theorem rd_isnot : RD K m rIsNotU dIsNot := by
  intro M H x y v w Q e mk hx hy h
  cases x <;> cases y <;> first | (exact False.elim h) | skip
  all_goals cases hy.val (fun _ q => nomatch q)
  all_goals first
    | (cases hx.val (fun _ q => nomatch q); exact Post.now h rfl (fun _ q => nomatch q))
    | (obtain ⟨a, xs, rfl, _⟩ := hx.lst; exact Post.now h rfl (fun _ q => nomatch q))
    | (obtain ⟨a, xs, rfl, _⟩ := hx.val (fun _ q => nomatch q); exact Post.now h rfl (fun _ q => nomatch q))
end
section
variable {K : PySem.W.Frag} {M : Addr → Prop} {H : Hp}
theorem flat0_V {d : D} {v : V} (h : Dx K M H d v) (f : d.flat0 = true) : flatV v = true := by
  cases d <;> first | (cases f; done) | (cases h; rfl)
theorem flat0_all : ∀ {ds : List D} {vs : List V}, DxAll K M H ds vs → ds.all D.flat0 = true → vs.all flatV = true
  | [], _, h, _ => by cases h; rfl
  | d :: ds, _, h, f => by
    obtain ⟨x, r, rfl, h1, h2⟩ := h
    rw [List.all_cons, Bool.and_eq_true] at f
    rw [List.all_cons, flat0_V h1 f.1, flat0_all h2 f.2]; rfl
theorem eqV_D {d e : D} {v w : V} (h : Dx K M H d v) (g : Dx K M H e w) (f1 : d.flat0 = true) (f2 : e.flat0 = true) : eqV v w = eqD d e := by
  cases d <;> first | (cases f1; done) | skip
  all_goals (cases e <;> first | (cases f2; done) | skip)
  all_goals (cases h; cases g)
  all_goals first
    | rfl
    | skip
  rename_i a b
  show (S a == S b) = decide (a = b)
  by_cases q : a = b
  · rw [q, decide_eq_true rfl]; exact beq_self_eq_true _
  · rw [decide_eq_false q]; exact beq_eq_false_iff_ne.mpr fun z => q (S_inj z)
theorem inV_D {d : D} {v : V} (h : Dx K M H d v) (f : d.flat0 = true) : ∀ {ds : List D} {vs : List V}, DxAll K M H ds vs → ds.all D.flat0 = true → inV v vs = ds.any fun y => eqD y d
  | [], _, h2, _ => by cases h2; rfl
  | e :: ds, _, h2, g => by
    obtain ⟨x, r, rfl, h3, h4⟩ := h2
    rw [List.all_cons, Bool.and_eq_true] at g
    show (eqV x v || inV v r) = (eqD e d || ds.any fun y => eqD y d)
    rw [eqV_D h3 h g.1 f, inV_D h f h4 g.2]
theorem eqAny_py {d : D} (fd : d.flat 64 = true) : ∀ {ds : List D} (n : Nat), n ≤ 64 → flatAll ds n = true → ((pyAll ds).any fun z => PyData.eqv z d.py) = ds.any fun y => eqD y d
  | [], _, _, _ => rfl
  | e :: ds, n, hn, f => by
    have f' : (e.flat n && flatAll ds n) = true := f
    rw [Bool.and_eq_true] at f'
    show (PyData.eqv e.py d.py || (pyAll ds).any _) = (eqD e d || _)
    rw [eqv_py e d n 64 f'.1 fd, eqAny_py fd n hn f'.2]
end
section
variable {K : PySem.W.Frag} {m : Md}
theorem in_core {M : Addr → Prop} {H : Hp} {x y : D} {v w : V} {Qb : Bool → Prop} {e : Str → Prop} (hx : DxS K M H x v) (hy : DxS K M H y w) (h : (dInB x y).run Qb e) :
    match w with
    | .str z => ∃ c, v = .str ⟨#[c]⟩ ∧ Qb (decide (c ∈ z.cps.toList))
    | .ref p => ∃ xs, SqA K H p xs ∧ flatV v = true ∧ xs.all flatV = true ∧ Qb (inV v xs)
    | _ => False := by
  have tail : ∀ (ys : List D) (p : Addr) (xs : List V), x.flat0 = true → ys.all D.flat0 = true → Qb (ys.any fun y => eqD y x) → SqA K H p xs → DxAll K M H ys xs → ∃ xs, SqA K H p xs ∧ flatV v = true ∧ xs.all flatV = true ∧ Qb (inV v xs) := fun ys p xs f1 f2 q sq r => by
    have hv : Dx K M H x v := hx.val (fun ds e => by rw [e] at f1; cases f1)
    exact ⟨xs, sq, flat0_V hv f1, flat0_all r f2, by rw [inV_D hv f1 r f2]; exact q⟩
  cases y with
  | str z =>
    cases hy.val (fun _ q => nomatch q)
    cases x with
    | str l =>
      match l, h, hx with
      | [c], h, hx =>
        cases hx.val (fun _ q => nomatch q)
        exact ⟨c, rfl, h⟩
      | [], h, _ => exact False.elim h
      | _ :: _ :: _, h, _ => exact False.elim h
    | _ => exact False.elim h
  | lst ys =>
    obtain ⟨a, xs, rfl, h1, h2⟩ := hy.lst
    have h' : (x.flat0 = true ∧ ys.all D.flat0 = true) ∧ Qb (ys.any fun y => eqD y x) := by
      cases x with
      | str l => match l, h with
        | [], h => exact h
        | [_], h => exact h
        | _ :: _ :: _, h => exact h
      | _ => exact h
    exact tail ys a xs h'.1.1 h'.1.2 h'.2 (.l h1) h2
  | tup ys =>
    obtain ⟨a, xs, rfl, h1, h2⟩ := hy.val (fun _ q => nomatch q)
    have h' : (x.flat0 = true ∧ ys.all D.flat0 = true) ∧ Qb (ys.any fun y => eqD y x) := by
      cases x with
      | str l => match l, h with
        | [], h => exact h
        | [_], h => exact h
        | _ :: _ :: _, h => exact h
      | _ => exact h
    exact tail ys a xs h'.1.1 h'.1.2 h'.2 (.inr h1) h2
  | _ => cases x <;> first | (exact False.elim h) | (rename_i l; match l, h with | [], h => exact False.elim h | [_], h => exact False.elim h | _ :: _ :: _, h => exact False.elim h)
theorem rd_in : RD K m (rInU K) dIn := by
  intro M H x y v w Q e mk hx hy h
  have g := in_core hx hy ((dInB x y).mono (fun b h => Post.bl h) (fun _ z => z) h : (dInB x y).run (fun b => Q (.bl b) H) e)
  cases w <;> first | exact g | exact False.elim g
theorem rd_notin : RD K m (rNotInU K) dNotIn := by
  intro M H x y v w Q e mk hx hy h
  have g := in_core hx hy ((dInB x y).mono (fun b h => Post.bl h) (fun _ z => z) h : (dInB x y).run (fun b => Q (.bl (!b)) H) e)
  cases w <;> first | exact g | exact False.elim g
theorem rd_ind : RD K m (rInDT K) dInD := by
  intro M H x y v w Q e mk hx hy h
  cases y <;> first | (cases x <;> exact False.elim h) | skip
  rename_i ys
  have h' : (x.flat 64 = true ∧ (D.tup ys).flat 64 = true) ∧ Post K M H Q m (.bl (ys.any fun y => eqD y x)) := by cases x <;> exact h
  obtain ⟨⟨f1, f2⟩, h'⟩ := h'
  refine ⟨x.py, pyAll ys, hx.dp f1, hy.dp f2, flat_shaped f1 (Nat.le_refl _), flat_shaped f2 (Nat.le_refl _), ?_⟩
  rw [eqAny_py f1 63 (by decide) f2]
  exact Post.now h' rfl (fun _ q => nomatch q)
/-- the item of a list of one's own may be any value -/
theorem atI_map {α β : Type} {xs : List α} {ys : List β} (hl : xs.length = ys.length) {i : Int} {y : β} (h : atI ys i = some y) : ∃ j : Nat, ys[j]? = some y ∧ ∀ x : α, xs[j]? = some x → atI xs i = some x := by
  unfold atI at h ⊢
  rw [hl]
  cases e : ixN ys.length i with
  | none => rw [e] at h; cases h
  | some j => rw [e] at h; exact ⟨j, h, fun x hx => hx⟩
theorem rd_ix : RD K .v (rIxU K) dIx := by
  intro M H x y v w Q e mk hx hy h
  cases x <;> cases y <;> first | (exact False.elim h) | skip
  · rename_i z i
    cases hx.val (fun _ q => nomatch q); cases hy.val (fun _ q => nomatch q)
    obtain ⟨h1, h⟩ := h
    cases q : atI z i with
    | none => rw [q] at h; exact False.elim h
    | some c =>
      rw [q] at h
      exact ⟨h1, c, q, Post.str (show Post K M H Q .v (.str [c]) from h)⟩
  · rename_i ds i
    obtain ⟨a, xs, rfl, h1, h2⟩ := hx.lst
    cases hy.val (fun _ q => nomatch q)
    cases q : atI ds i with
    | none => dsimp only [dIx] at h; rw [q] at h; exact False.elim h
    | some d =>
      dsimp only [dIx] at h; rw [q] at h
      obtain ⟨j, e1, e2⟩ := atI_map (DxAll.len h2) q
      obtain ⟨u, e3, r⟩ := DxAll.get h2 e1
      exact ⟨xs, u, .l h1, e2 u e3, h u H (Evl.Ex.refl H) r⟩
  · rename_i ds i
    obtain ⟨a, xs, rfl, h1, h2⟩ := hx.val (fun _ q => nomatch q)
    cases hy.val (fun _ q => nomatch q)
    cases q : atI ds i with
    | none => dsimp only [dIx] at h; rw [q] at h; exact False.elim h
    | some d =>
      dsimp only [dIx] at h; rw [q] at h
      obtain ⟨j, e1, e2⟩ := atI_map (DxAll.len h2) q
      obtain ⟨u, e3, r⟩ := DxAll.get h2 e1
      exact ⟨xs, u, .inr h1, e2 u e3, h u H (Evl.Ex.refl H) r⟩
theorem sl_core {M : Addr → Prop} {H : Hp} {x : D} {v : V} {lo hi : Option Int} {Q : VK} {e : Str → Prop} (mk : Mk M H) (hx : DxS K M H x v) (h : (dSl x lo hi).run (Post K M H Q m) e) : rSlU K v lo hi H Q := by
  cases x <;> first | (exact False.elim h) | skip
  · cases hx.val (fun _ q => nomatch q)
    exact ⟨h.1, Post.now h.2 rfl (fun _ q => nomatch q)⟩
  · rename_i ds
    obtain ⟨a, xs, rfl, h1, h2⟩ := hx.lst
    refine .inl ⟨a, xs, rfl, .of h1, fun p np => Post.newl mk h np ?_⟩
    unfold cutV cutL
    rw [DxAll.len h2]
    exact DxAll.take _ (DxAll.drop _ h2)
  · rename_i ds
    obtain ⟨a, xs, rfl, h1, h2⟩ := hx.val (fun _ q => nomatch q)
    have cut : DxAll K M H (cutL ds lo hi) (cutV xs lo hi) := by
      unfold cutV cutL
      rw [DxAll.len h2]
      exact DxAll.take _ (DxAll.drop _ h2)
    refine .inr ⟨a, xs, rfl, h1, fun w => Post.now h ⟨a, xs, rfl, h1, ?_⟩ (fun _ q => nomatch q), fun _ p np => Post.newt h np cut⟩
    have : cutV xs lo hi = xs := by
      unfold cutV
      rw [w.1, w.2]
      simp
    rw [this] at cut
    exact cut
end
end NV

set_option Elab.async false
set_option linter.all false
set_option maxRecDepth 100000
set_option maxHeartbeats 4000000
/-! # judgements: a reading, and what it comes to over plain data -/
namespace NV
open PySem PySem.Spec PyProof.Rows L2
open Evl (Ex)
abbrev Env := List (Option D)
/-- slots hold values; those in own hold lists that none but this slot holds -/
structure EnvE (K : PySem.W.Frag) (M : Addr → Prop) (own : List Nat) (H : Hp) (σ : L2.St) (ρ : Env) : Prop where
  len : σ.length = ρ.length
  val : ∀ (i : Nat) (d : D), i ∉ own → ρ[i]? = some (some d) → ∃ v, σ[i]? = some (some v) ∧ Dx K M H d v
  own : ∀ (i : Nat) (d : D), i ∈ own → ρ[i]? = some (some d) → ∃ ds a xs, σ[i]? = some (some (.ref a)) ∧ d = .lst ds ∧ M a ∧ H a = some (.lst xs) ∧ DxAll K M H ds xs
section
variable {K : PySem.W.Frag} {M : Addr → Prop} {own : List Nat} {H H' : Hp} {σ : L2.St} {ρ : Env}
theorem EnvE.ex (e : Ex H H') (E : EnvE K M own H σ ρ) : EnvE K M own H' σ ρ := by
  refine ⟨E.len, fun i d n h => ?_, fun i d n h => ?_⟩
  · obtain ⟨v, h1, h2⟩ := E.val i d n h
    exact ⟨v, h1, h2.ex e⟩
  · obtain ⟨ds, a, xs, h1, h2, h3, h4, h5⟩ := E.own i d n h
    exact ⟨ds, a, xs, h1, h2, h3, e _ _ h4, h5.ex e⟩
theorem EnvE.more {p : Addr} (n : H p = none) (E : EnvE K M own H σ ρ) : EnvE K (M1 M p) own H σ ρ := by
  refine ⟨E.len, fun i d m h => ?_, fun i d m h => ?_⟩
  · obtain ⟨v, h1, h2⟩ := E.val i d m h
    exact ⟨v, h1, Dx.more n d h2⟩
  · obtain ⟨ds, a, xs, h1, h2, h3, h4, h5⟩ := E.own i d m h
    exact ⟨ds, a, xs, h1, h2, .inl h3, h4, DxAll.more n ds h5⟩
/-- under a heap that differs at p alone (masked, no slot's) -/
theorem EnvE.kx (k : Kx K M H H') (ho : ∀ a xs, (∃ i ∈ own, σ[i]? = some (some (.ref a)) ∧ ∃ d, ρ[i]? = some (some d)) → H a = some (.lst xs) → H' a = some (.lst xs)) (E : EnvE K M own H σ ρ) : EnvE K M own H' σ ρ := by
  refine ⟨E.len, fun i d n h => ?_, fun i d n h => ?_⟩
  · obtain ⟨v, h1, h2⟩ := E.val i d n h
    exact ⟨v, h1, Dx.kx k d h2⟩
  · obtain ⟨ds, a, xs, h1, h2, h3, h4, h5⟩ := E.own i d n h
    exact ⟨ds, a, xs, h1, h2, h3, ho a xs ⟨i, n, h1, d, h⟩ h4, DxAll.kx k ds h5⟩
theorem Mk.more {p : Addr} (mk : Mk M H) (e : Ex H H') {o : List V} (hp : H' p = some (.lst o)) : Mk (M1 M p) H' := fun a h => by
  rcases h with h | h
  · exact mk.ex e a h
  · exact ⟨o, by rw [h]; exact hp⟩
/-- a new list, filled -/
theorem Post.made {m : Md} {Q : VK} {ds : List D} {a : Addr} {xs : List V} (mk : Mk M H) (h : Post K M H Q m (.lst ds)) (e : Ex H H') (n : H a = none) (ha : H' a = some (.lst xs)) (r : DxAll K (M1 M a) H' ds xs) : Q (.ref a) H' := by
  have dx : Dx K M H' (.lst ds) (.ref a) := ⟨a, xs, rfl, mk.no n, ha, DxAll.less (fun b z => .inl z) ds r⟩
  cases m with
  | v => exact h _ _ e dx
  | s => exact h _ _ e (.inl dx)
  | f =>
    obtain ⟨ds', q, k⟩ := h
    cases q
    exact k a xs _ e n ha r
end
def PostX (mg : Str → Option Value) (H : Hp) (Eo : XK) : Str → Prop := fun n => ∀ cls H', Ex H H' → mg n = some cls → Eo cls none H'
theorem PostX.mono {mg : Str → Option Value} {H H' : Hp} {Eo : XK} (e : Ex H H') {n : Str} (h : PostX mg H Eo n) : PostX mg H' Eo n := fun cls H2 e2 q => h cls H2 (e.trans e2) q
section
variable (K : PySem.W.Frag) (mg : Str → Option Value) (Eo : XK) (own : List Nat)
def PD (m : Md) (te : TE) (fe : Env → W D) : Prop := ∀ (M : Addr → Prop) (ρ : Env) (σ : L2.St) (H : Hp) (Q : VK), Mk M H → EnvE K M own H σ ρ → (fe ρ).run (Post K M H Q m) (PostX mg H Eo) → te σ H Q
def PDT (tt : TT) (ft : Env → W Bool) : Prop := ∀ (M : Addr → Prop) (ρ : Env) (σ : L2.St) (H : Hp) (Q : Bool → Hp → Prop), Mk M H → EnvE K M own H σ ρ → (ft ρ).run (fun b => ∀ H', Ex H H' → Q b H') (PostX mg H Eo) → tt σ H Q
def PDA (ta : TA) (fa : Env → W (List D)) : Prop := ∀ (M : Addr → Prop) (ρ : Env) (σ : L2.St) (H : Hp) (Q : List V → Hp → Prop), Mk M H → EnvE K M own H σ ρ → (fa ρ).run (fun ds => ∀ vs H', Ex H H' → DxAll K M H' ds vs → Q vs H') (PostX mg H Eo) → ta σ H Q
def PDO (to : TO) (fo : Env → W (Option Int)) : Prop := ∀ (M : Addr → Prop) (ρ : Env) (σ : L2.St) (H : Hp) (Q : Option Int → Hp → Prop), Mk M H → EnvE K M own H σ ρ → (fo ρ).run (fun b => ∀ H', Ex H H' → Q b H') (PostX mg H Eo) → to σ H Q
end
/-! ### what is reckoned -/
def fV (i : Nat) : Env → W D := fun ρ => match ρ[i]? with
  | some (some d) => .ok d
  | _ => .stuck
def fC (d : D) : Env → W D := fun _ => .ok d
def fOp (f : D → D → W D) (fa fb : Env → W D) : Env → W D := fun ρ => (fa ρ).bind fun x => (fb ρ).bind fun y => f x y
def fUn (f : D → W D) (fa : Env → W D) : Env → W D := fun ρ => (fa ρ).bind f
def fNil : Env → W (List D) := fun _ => .ok []
def fCons (fa : Env → W D) (fr : Env → W (List D)) : Env → W (List D) := fun ρ => (fa ρ).bind fun x => (fr ρ).bind fun xs => .ok (x :: xs)
def fTup (fa : Env → W (List D)) : Env → W D := fun ρ => (fa ρ).bind fun ds => .chk (ds.length ≤ 16777216) (.ok (.tup ds))
def fLst (fa : Env → W (List D)) : Env → W D := fun ρ => (fa ρ).bind fun ds => .chk (ds.length ≤ 16777216) (.ok (.lst ds))
def fNo : Env → W (Option Int) := fun _ => .ok none
def fSome (fa : Env → W D) : Env → W (Option Int) := fun ρ => (fa ρ).bind fun
  | .int i => .ok (some i)
  | _ => .stuck
def fSl (fe : Env → W D) (fl fh : Env → W (Option Int)) : Env → W D := fun ρ => (fe ρ).bind fun x => (fl ρ).bind fun lo => (fh ρ).bind fun hi => dSl x lo hi
def dB : D → W Bool
  | .bl b => .ok b
  | _ => .stuck
def fT (fe : Env → W D) : Env → W Bool := fun ρ => (fe ρ).bind dB
def fIf (ft : Env → W Bool) (fa fb : Env → W D) : Env → W D := fun ρ => (ft ρ).bind fun b => .ite b (fa ρ) (fb ρ)
def fAndV (fa fb : Env → W D) : Env → W D := fun ρ => (fa ρ).bind fun x => (dB x).bind fun b => .ite b (fb ρ) (.ok (.bl false))
def fOrV (fa fb : Env → W D) : Env → W D := fun ρ => (fa ρ).bind fun x => (dB x).bind fun b => .ite b (.ok (.bl true)) (fb ρ)
def fNotV (fa : Env → W D) : Env → W D := fun ρ => (fa ρ).bind fun x => (dB x).bind fun b => .ok (.bl (!b))
def fAnd (fa fb : Env → W Bool) : Env → W Bool := fun ρ => (fa ρ).bind fun b => .ite b (fb ρ) (.ok false)
def fOr (fa fb : Env → W Bool) : Env → W Bool := fun ρ => (fa ρ).bind fun b => .ite b (.ok true) (fb ρ)
def fNot (fa : Env → W Bool) : Env → W Bool := fun ρ => (fa ρ).bind fun b => .ok (!b)
def fChain (f g : D → D → W D) (fa fb fc : Env → W D) : Env → W D := fun ρ => (fa ρ).bind fun x => (fb ρ).bind fun y => (f x y).bind fun z => (dB z).bind fun b => .ite b ((fc ρ).bind fun w => g y w) (.ok (.bl false))
def fCall (F : List D → W D) (fa : Env → W (List D)) : Env → W D := fun ρ => (fa ρ).bind F
def W.calm {α : Type} (m : W α) : W α := ⟨fun q _ => m.run q (fun _ => False), fun hq _ z => m.mono hq (fun _ z => z) z⟩
/-- a call of what raises nothing here -/
def fCalm (F : List D → W D) (fa : Env → W (List D)) : Env → W D := fun ρ => (fa ρ).bind fun ds => W.calm (F ds)
/-- so many arguments -/
def LenA (n : Nat) (fa : Env → W (List D)) : Prop := ∀ ρ q e, (fa ρ).run q e → (fa ρ).run (fun ds => ds.length = n ∧ q ds) e
theorem len_nil : LenA 0 fNil := fun _ _ _ h => ⟨rfl, h⟩
theorem len_cons {n : Nat} {fa : Env → W D} {fr : Env → W (List D)} (h : LenA n fr) : LenA (n + 1) (fCons fa fr) := fun ρ q e r =>
  (fa ρ).mono (fun x p => (fr ρ).mono (fun xs p => ⟨by rw [List.length_cons, p.1], p.2⟩) (fun _ z => z) (h ρ _ e p)) (fun _ z => z) r
def dList : D → W D
  | .lst ds => .ok (.lst ds)
  | _ => .stuck
def fList (fe : Env → W D) : Env → W D := fun ρ => (fe ρ).bind dList
/-! ### promises -/
def spF (K : PySem.W.Frag) (mg : Str → Option Value) (n : Nat) (m : Md) (F : List D → W D) : Sp := fun vs H Q E => ∃ (M : Addr → Prop) (ds : List D), ds.length = n ∧ Mk M H ∧ DxAll K M H ds vs ∧ (F ds).run (Post K M H Q m) (PostX mg H E)
section
variable {K : PySem.W.Frag} {mg : Str → Option Value} {Eo : XK} {own : List Nat}
theorem PD.s {te : TE} {fe : Env → W D} (h : PD K mg Eo own .v te fe) : PD K mg Eo own .s te fe := fun M ρ σ H Q mk E r => h M ρ σ H Q mk E ((fe ρ).mono (fun d p v H' e x => p v H' e (.inl x)) (fun _ z => z) r)
theorem PD.fv {te : TE} {fe : Env → W D} (h : PD K mg Eo own .f te fe) : PD K mg Eo own .v te (fList fe) := fun M ρ σ H Q mk E r => by
  refine h M ρ σ H Q mk E ((fe ρ).mono (fun d p => ?_) (fun _ z => z) r)
  cases d with
  | lst ds => exact ⟨ds, rfl, fun a xs H' e n h1 h2 => p _ _ e ⟨a, xs, rfl, mk.no n, h1, DxAll.less (fun b z => .inl z) ds h2⟩⟩
  | _ => exact False.elim p
theorem pd_v {i : Nat} (h : i ∉ own) : PD K mg Eo own .v (mV i) (fV i) := fun M ρ σ H Q mk E r => by
  unfold fV at r
  split at r
  · rename_i d e
    obtain ⟨v, h1, h2⟩ := E.val i d h e
    show match σ[i]? with | some (some v) => Q v H | _ => False
    rw [h1]
    exact r v H (Evl.Ex.refl H) h2
  · exact False.elim r
theorem pd_o {i : Nat} : PD K mg Eo own .s (mV i) (fV i) := fun M ρ σ H Q mk E r => by
  by_cases hi : i ∈ own
  · unfold fV at r
    split at r
    · rename_i d e
      obtain ⟨ds, a, xs, h1, rfl, h2, h3, h4⟩ := E.own i d hi e
      show match σ[i]? with | some (some v) => Q v H | _ => False
      rw [h1]
      exact r _ H (Evl.Ex.refl H) (.inr ⟨ds, a, xs, rfl, rfl, h3, h4⟩)
    · exact False.elim r
  · exact (pd_v hi).s M ρ σ H Q mk E r
theorem pd_int {i : Int} : PD K mg Eo own .v (tC (.int i)) (fC (.int i)) := fun M ρ σ H Q mk E r => r _ H (Evl.Ex.refl H) rfl
theorem pd_bl {i : Bool} : PD K mg Eo own .v (tC (.bl i)) (fC (.bl i)) := fun M ρ σ H Q mk E r => r _ H (Evl.Ex.refl H) rfl
theorem pd_non : PD K mg Eo own .v (tC .non) (fC .non) := fun M ρ σ H Q mk E r => r _ H (Evl.Ex.refl H) rfl
theorem pd_ty {n : String} : PD K mg Eo own .v (tC (.ty n)) (fC (.ty n)) := fun M ρ σ H Q mk E r => r _ H (Evl.Ex.refl H) rfl
theorem pd_str {z : Str} (l : List Nat) (h : z = S l) : PD K mg Eo own .v (tC (.str z)) (fC (.str l)) := fun M ρ σ H Q mk E r => r _ H (Evl.Ex.refl H) (by rw [h]; rfl)
/-- a tuple that the top has left -/
theorem pd_gt {xs : List V} (ds : List D) (h : ∀ M H, DxAll K M H ds xs) : PD K mg Eo own .v (mGT K xs) (fC (.tup ds)) := fun M ρ σ H Q mk E r => fun a ha => r _ H (Evl.Ex.refl H) ⟨a, xs, rfl, ha H, h M H⟩
theorem pd_op {m : Md} {r : R2} {f : D → D → W D} {ta tb : TE} {fa fb : Env → W D} (hr : RD K m r f) (ha : PD K mg Eo own .s ta fa) (hb : PD K mg Eo own .s tb fb) : PD K mg Eo own m (tOp r ta tb) (fOp f fa fb) := fun M ρ σ H Q mk E h =>
  ha M ρ σ H _ mk E ((fa ρ).mono (fun x p v H1 e1 r1 => hb M ρ σ H1 _ (mk.ex e1) (E.ex e1) ((fb ρ).mono (fun y p w H2 e2 r2 => hr M H2 x y v w Q _ (mk.ex (e1.trans e2)) (r1.ex e2) r2 ((f x y).mono (fun d p => p.mono (e1.trans e2)) (fun _ z => z) p)) (fun n z => z.mono e1) p)) (fun _ z => z) h)
theorem pd_un {m : Md} {r : V → Hp → VK → Prop} {f : D → W D} {ta : TE} {fa : Env → W D} (hr : RU1 K m r f) (ha : PD K mg Eo own .s ta fa) : PD K mg Eo own m (tUn r ta) (fUn f fa) := fun M ρ σ H Q mk E h =>
  ha M ρ σ H _ mk E ((fa ρ).mono (fun x p v H1 e1 r1 => hr M H1 x v Q _ (mk.ex e1) r1 ((f x).mono (fun d p => p.mono e1) (fun _ z => z) p)) (fun _ z => z) h)
theorem pda_nil : PDA K mg Eo own tNil fNil := fun M ρ σ H Q mk E h => h [] H (Evl.Ex.refl H) rfl
theorem pda_cons {ta : TE} {tr : TA} {fa : Env → W D} {fr : Env → W (List D)} (ha : PD K mg Eo own .v ta fa) (hr : PDA K mg Eo own tr fr) : PDA K mg Eo own (tCons ta tr) (fCons fa fr) := fun M ρ σ H Q mk E h =>
  ha M ρ σ H _ mk E ((fa ρ).mono (fun x p v H1 e1 r1 => hr M ρ σ H1 _ (mk.ex e1) (E.ex e1) ((fr ρ).mono (fun xs p vs H2 e2 r2 => p _ H2 (e1.trans e2) ⟨v, vs, rfl, r1.ex e2, r2⟩) (fun n z => z.mono e1) p)) (fun _ z => z) h)
theorem pd_tup {m : Md} {ta : TA} {fa : Env → W (List D)} (ha : PDA K mg Eo own ta fa) : PD K mg Eo own m (tTup ta) (fTup fa) := fun M ρ σ H Q mk E h =>
  ha M ρ σ H _ mk E ((fa ρ).mono (fun ds p vs H1 e1 r1 => ⟨by rw [DxAll.len r1]; exact p.1, fun a na => Post.newt (Post.mono e1 p.2) na r1⟩) (fun _ z => z) h)
theorem pd_lst {m : Md} {ta : TA} {fa : Env → W (List D)} (ha : PDA K mg Eo own ta fa) : PD K mg Eo own m (tLst ta) (fLst fa) := fun M ρ σ H Q mk E h =>
  ha M ρ σ H _ mk E ((fa ρ).mono (fun ds p vs H1 e1 r1 => ⟨by rw [DxAll.len r1]; exact p.1, fun a na => Post.newl (mk.ex e1) (Post.mono e1 p.2) na r1⟩) (fun _ z => z) h)
theorem pdo_no : PDO K mg Eo own tNoPart fNo := fun M ρ σ H Q mk E h => h H (Evl.Ex.refl H)
theorem pdo_some {ta : TE} {fa : Env → W D} (ha : PD K mg Eo own .v ta fa) : PDO K mg Eo own (tPart ta) (fSome fa) := fun M ρ σ H Q mk E h =>
  ha M ρ σ H _ mk E ((fa ρ).mono (fun x p v H1 e1 r1 => by
    cases x <;> first | (exact False.elim p) | skip
    cases r1
    exact ⟨_, rfl, p H1 e1⟩) (fun _ z => z) h)
theorem pd_sl {m : Md} {te : TE} {tl th : TO} {fe : Env → W D} {fl fh : Env → W (Option Int)} (he : PD K mg Eo own .s te fe) (hl : PDO K mg Eo own tl fl) (hh : PDO K mg Eo own th fh) : PD K mg Eo own m (tSl (rSlU K) te tl th) (fSl fe fl fh) := fun M ρ σ H Q mk E h =>
  he M ρ σ H _ mk E ((fe ρ).mono (fun x p v H1 e1 r1 => hl M ρ σ H1 _ (mk.ex e1) (E.ex e1) ((fl ρ).mono (fun lo p H2 e2 => hh M ρ σ H2 _ (mk.ex (e1.trans e2)) (E.ex (e1.trans e2)) ((fh ρ).mono (fun hi p H3 e3 =>
    sl_core (mk.ex ((e1.trans e2).trans e3)) (r1.ex (e2.trans e3)) ((dSl x lo hi).mono (fun d p => Post.mono ((e1.trans e2).trans e3) p) (fun _ z => z) p)) (fun n z => z.mono (e1.trans e2)) p)) (fun n z => z.mono e1) p)) (fun _ z => z) h)
theorem dB_run {m : Md} {d : D} {q : Bool → Prop} {e : Str → Prop} (h : (dB d).run q e) : ∃ b, d = .bl b ∧ q b := by
  cases d <;> first | (exact False.elim h) | skip
  exact ⟨_, rfl, h⟩
theorem pdt_v {te : TE} {fe : Env → W D} (he : PD K mg Eo own .v te fe) : PDT K mg Eo own (mT te) (fT fe) := fun M ρ σ H Q mk E h =>
  he M ρ σ H _ mk E ((fe ρ).mono (fun x p v H1 e1 r1 => by
    obtain ⟨b, rfl, p⟩ := dB_run (m := .v) p
    cases r1
    exact p H1 e1) (fun _ z => z) h)
theorem pd_if {m : Md} {tt : TT} {ta tb : TE} {ft : Env → W Bool} {fa fb : Env → W D} (ht : PDT K mg Eo own tt ft) (ha : PD K mg Eo own m ta fa) (hb : PD K mg Eo own m tb fb) : PD K mg Eo own m (tIf tt ta tb) (fIf ft fa fb) := fun M ρ σ H Q mk E h =>
  ht M ρ σ H _ mk E ((ft ρ).mono (fun b p H1 e1 => by
    cases b with
    | true => exact ha M ρ σ H1 Q (mk.ex e1) (E.ex e1) ((fa ρ).mono (fun d p => Post.mono e1 p) (fun n z => z.mono e1) p)
    | false => exact hb M ρ σ H1 Q (mk.ex e1) (E.ex e1) ((fb ρ).mono (fun d p => Post.mono e1 p) (fun n z => z.mono e1) p)) (fun _ z => z) h)
theorem pd_andV {m : Md} {ta tb : TE} {fa fb : Env → W D} (ha : PD K mg Eo own .v ta fa) (hb : PD K mg Eo own m tb fb) : PD K mg Eo own m (tAndV ta tb) (fAndV fa fb) := fun M ρ σ H Q mk E h =>
  ha M ρ σ H _ mk E ((fa ρ).mono (fun x p v H1 e1 r1 => by
    obtain ⟨b, rfl, p⟩ := dB_run (m := .v) p
    cases r1
    refine ⟨b, rfl, ?_⟩
    cases b with
    | true => exact hb M ρ σ H1 Q (mk.ex e1) (E.ex e1) ((fb ρ).mono (fun d p => Post.mono e1 p) (fun n z => z.mono e1) p)
    | false => exact Post.bl (Post.mono e1 p)) (fun _ z => z) h)
theorem pd_orV {m : Md} {ta tb : TE} {fa fb : Env → W D} (ha : PD K mg Eo own .v ta fa) (hb : PD K mg Eo own m tb fb) : PD K mg Eo own m (tOrV ta tb) (fOrV fa fb) := fun M ρ σ H Q mk E h =>
  ha M ρ σ H _ mk E ((fa ρ).mono (fun x p v H1 e1 r1 => by
    obtain ⟨b, rfl, p⟩ := dB_run (m := .v) p
    cases r1
    refine ⟨b, rfl, ?_⟩
    cases b with
    | false => exact hb M ρ σ H1 Q (mk.ex e1) (E.ex e1) ((fb ρ).mono (fun d p => Post.mono e1 p) (fun n z => z.mono e1) p)
    | true => exact Post.bl (Post.mono e1 p)) (fun _ z => z) h)
theorem pd_notV {m : Md} {ta : TE} {fa : Env → W D} (ha : PD K mg Eo own .v ta fa) : PD K mg Eo own m (tNotV ta) (fNotV fa) := fun M ρ σ H Q mk E h =>
  ha M ρ σ H _ mk E ((fa ρ).mono (fun x p v H1 e1 r1 => by
    obtain ⟨b, rfl, p⟩ := dB_run (m := .v) p
    cases r1
    exact ⟨b, rfl, Post.bl (Post.mono e1 p)⟩) (fun _ z => z) h)
theorem pdt_and {ta tb : TT} {fa fb : Env → W Bool} (ha : PDT K mg Eo own ta fa) (hb : PDT K mg Eo own tb fb) : PDT K mg Eo own (tAnd ta tb) (fAnd fa fb) := fun M ρ σ H Q mk E h =>
  ha M ρ σ H _ mk E ((fa ρ).mono (fun b p H1 e1 => by
    cases b with
    | true => exact hb M ρ σ H1 Q (mk.ex e1) (E.ex e1) ((fb ρ).mono (fun d p H2 e2 => p H2 (e1.trans e2)) (fun n z => z.mono e1) p)
    | false => exact p H1 e1) (fun _ z => z) h)
theorem pdt_or {ta tb : TT} {fa fb : Env → W Bool} (ha : PDT K mg Eo own ta fa) (hb : PDT K mg Eo own tb fb) : PDT K mg Eo own (tOr ta tb) (fOr fa fb) := fun M ρ σ H Q mk E h =>
  ha M ρ σ H _ mk E ((fa ρ).mono (fun b p H1 e1 => by
    cases b with
    | false => exact hb M ρ σ H1 Q (mk.ex e1) (E.ex e1) ((fb ρ).mono (fun d p H2 e2 => p H2 (e1.trans e2)) (fun n z => z.mono e1) p)
    | true => exact p H1 e1) (fun _ z => z) h)
theorem pdt_not {ta : TT} {fa : Env → W Bool} (ha : PDT K mg Eo own ta fa) : PDT K mg Eo own (tNot ta) (fNot fa) := fun M ρ σ H Q mk E h =>
  ha M ρ σ H _ mk E ((fa ρ).mono (fun b p H1 e1 => p H1 e1) (fun _ z => z) h)
theorem pd_chain {m : Md} {r r' : R2} {f g : D → D → W D} {ta tb tc : TE} {fa fb fc : Env → W D} (hr : RD K .v r f) (hr' : RD K m r' g) (ha : PD K mg Eo own .s ta fa) (hb : PD K mg Eo own .s tb fb) (hc : PD K mg Eo own .s tc fc) : PD K mg Eo own m (tChain r r' ta tb tc) (fChain f g fa fb fc) := fun M ρ σ H Q mk E h =>
  ha M ρ σ H _ mk E ((fa ρ).mono (fun x p v H1 e1 r1 => hb M ρ σ H1 _ (mk.ex e1) (E.ex e1) ((fb ρ).mono (fun y p w H2 e2 r2 => hr M H2 x y v w _ _ (mk.ex (e1.trans e2)) (r1.ex e2) r2 ((f x y).mono (fun z p u H3 e3 r3 => by
    obtain ⟨b, rfl, p⟩ := dB_run (m := .v) p
    cases r3
    refine ⟨b, rfl, ?_⟩
    have e123 := (e1.trans e2).trans e3
    cases b with
    | true => exact hc M ρ σ H3 _ (mk.ex e123) (E.ex e123) ((fc ρ).mono (fun w' p u' H4 e4 r4 => hr' M H4 y w' w u' Q _ (mk.ex (e123.trans e4)) (r2.ex (e3.trans e4)) r4 ((g y w').mono (fun d p => Post.mono (e123.trans e4) p) (fun _ z => z) p)) (fun n z => z.mono e123) p)
    | false => exact Post.bl (Post.mono e123 p)) (fun _ z => z) p)) (fun n z => z.mono e1) p)) (fun _ z => z) h)
theorem pd_call {n : Nat} {m : Md} {F : List D → W D} {ta : TA} {fa : Env → W (List D)} (hl : LenA n fa) (ha : PDA K mg Eo own ta fa) : PD K mg Eo own m (mCall (spF K mg n m F) Eo ta) (fCall F fa) := fun M ρ σ H Q mk E h =>
  ha M ρ σ H _ mk E ((fa ρ).mono (fun ds p vs H1 e1 r1 => ⟨M, ds, p.1, mk.ex e1, r1, (F ds).mono (fun d p => Post.mono e1 p) (fun n z => z.mono e1) p.2⟩) (fun _ z => z) (hl ρ _ _ h))
theorem pd_calm {n : Nat} {m : Md} {F : List D → W D} {E0 : XK} {ta : TA} {fa : Env → W (List D)} (hl : LenA n fa) (ha : PDA K mg Eo own ta fa) : PD K mg Eo own m (mCall (spF K mg n m F) E0 ta) (fCalm F fa) := fun M ρ σ H Q mk E h =>
  ha M ρ σ H _ mk E ((fa ρ).mono (fun ds p vs H1 e1 r1 => ⟨M, ds, p.1, mk.ex e1, r1, (F ds).mono (fun d p => Post.mono e1 p) (fun n z => False.elim z) p.2⟩) (fun _ z => z) (hl ρ _ _ h))
theorem pd_call0 {m : Md} {F : List D → W D} : PD K mg Eo own m (fun _ H Q => spF K mg 0 m F [] H Q Eo) (fCall F fNil) := fun M ρ σ H Q mk E h => ⟨M, [], rfl, mk, rfl, h⟩
theorem pd_calm0 {m : Md} {F : List D → W D} {E0 : XK} : PD K mg Eo own m (fun _ H Q => spF K mg 0 m F [] H Q E0) (fCalm F fNil) := fun M ρ σ H Q mk E h => ⟨M, [], rfl, mk, rfl, (F []).mono (fun _ p => p) (fun n z => False.elim z) h⟩
end
end NV

set_option Elab.async false
set_option linter.all false
set_option maxRecDepth 100000
set_option maxHeartbeats 4000000
/-! # built-in calls, targets, what is walked, comprehensions -/
namespace NV
open PySem PySem.Spec PyProof.Rows L2
open Evl (Ex)
/-! ### built-in calls -/
def dLen : D → W D
  | .str z => .chk (z.length ≤ 16777216) (.ok (.int z.length))
  | .lst ds => .ok (.int ds.length)
  | .tup ds => .ok (.int ds.length)
  | _ => .stuck
def dAbs : D → W D
  | .int i => .ok (.int (if i < 0 then -i else i))
  | _ => .stuck
def dInt : D → W D
  | .int i => .ok (.int i)
  | .bl k => .ok (.int (if k then 1 else 0))
  | .str l => (match PySem.intText? (S l) with
    | some n => .chk (l.length ≤ 640) (.ok (.int n))
    | none => .stuck)
  | _ => .stuck
/-- int(..) of a number or a text -/
def rIntA : List V → Hp → VK → Prop := fun vs H Q => rIntU vs H Q ∨ ∃ a n, vs = [.str a] ∧ PySem.intText? a = some n ∧ a.length ≤ 640 ∧ Q (.int n) H
theorem cIntA {X : Cx} : CallR X (.type "int") rIntA := by
  intro pins s σ H xs us Q I r h
  rcases h with h | h
  · exact cInt pins s σ H xs us Q I r h
  · exact call_int_str pins s σ H xs us Q I r h
def dToList : D → W D
  | .lst ds => .ok (.lst ds)
  | .tup ds => .ok (.lst ds)
  | _ => .stuck
def dToTup : D → W D
  | .lst ds => .ok (.tup ds)
  | _ => .stuck
def tyD : D → Option String
  | .non => some "NoneType"
  | .bl _ => some "bool"
  | .int _ => some "int"
  | .str _ => some "str"
  | .lst _ => some "list"
  | .tup _ => some "tuple"
  | _ => none
def dIsi (x y : D) : W D := match tyD x, y with
  | some t, .ty n => (match kitB t n with
    | some b => .ok (.bl b)
    | none => .stuck)
  | _, _ => .stuck
def intsD : List D → Option (List Int)
  | [] => some []
  | .int i :: r => (intsD r).map (i :: ·)
  | _ :: _ => none
def boolsD : List D → Option (List Bool)
  | [] => some []
  | .bl i :: r => (boolsD r).map (i :: ·)
  | _ :: _ => none
def strsD : List D → Option (List (List Nat))
  | [] => some []
  | .str i :: r => (strsD r).map (i :: ·)
  | _ :: _ => none
theorem intsD_eq : ∀ {ds : List D} {ns : List Int}, intsD ds = some ns → ds = ns.map D.int
  | [], _, h => by cases h; rfl
  | .int i :: r, ns, h => by
    unfold intsD at h
    cases q : intsD r with
    | none => rw [q] at h; cases h
    | some ms => rw [q] at h; cases h; rw [List.map_cons, intsD_eq q]
theorem boolsD_eq : ∀ {ds : List D} {ns : List Bool}, boolsD ds = some ns → ds = ns.map D.bl
  | [], _, h => by cases h; rfl
  | .bl i :: r, ns, h => by
    unfold boolsD at h
    cases q : boolsD r with
    | none => rw [q] at h; cases h
    | some ms => rw [q] at h; cases h; rw [List.map_cons, boolsD_eq q]
theorem strsD_eq : ∀ {ds : List D} {ns : List (List Nat)}, strsD ds = some ns → ds = ns.map D.str
  | [], _, h => by cases h; rfl
  | .str i :: r, ns, h => by
    unfold strsD at h
    cases q : strsD r with
    | none => rw [q] at h; cases h
    | some ms => rw [q] at h; cases h; rw [List.map_cons, strsD_eq q]
theorem intsD_map : ∀ ns : List Int, intsD (ns.map D.int) = some ns
  | [] => rfl
  | i :: r => by rw [List.map_cons, intsD, intsD_map r]; rfl
theorem boolsD_map : ∀ ns : List Bool, boolsD (ns.map D.bl) = some ns
  | [] => rfl
  | i :: r => by rw [List.map_cons, boolsD, boolsD_map r]; rfl
theorem strsD_map : ∀ ns : List (List Nat), strsD (ns.map D.str) = some ns
  | [] => rfl
  | i :: r => by rw [List.map_cons, strsD, strsD_map r]; rfl
def dSum : D → W D
  | .lst ds => (match intsD ds with
    | some ns => .ok (.int ns.sum)
    | none => .stuck)
  | _ => .stuck
def dAll : D → W D
  | .lst ds => (match boolsD ds with
    | some ns => .ok (.bl (ns.all id))
    | none => .stuck)
  | _ => .stuck
def dAny : D → W D
  | .lst ds => (match boolsD ds with
    | some ns => .ok (.bl (ns.any id))
    | none => .stuck)
  | _ => .stuck
def maxL (n : Int) : List Int → Int
  | [] => n
  | m :: r => maxL (if n < m then m else n) r
def minL (n : Int) : List Int → Int
  | [] => n
  | m :: r => minL (if m < n then m else n) r
theorem maxL_ge : ∀ (r : List Int) (n : Int), n ≤ maxL n r ∧ (∀ m ∈ r, m ≤ maxL n r) ∧ (maxL n r = n ∨ maxL n r ∈ r)
  | [], n => ⟨Int.le_refl _, fun _ h => by simp at h, .inl rfl⟩
  | m :: r, n => by
    obtain ⟨h1, h2, h3⟩ := maxL_ge r (if n < m then m else n)
    show n ≤ maxL _ r ∧ (∀ k ∈ m :: r, k ≤ maxL _ r) ∧ (maxL _ r = n ∨ maxL _ r ∈ m :: r)
    by_cases q : n < m
    · rw [if_pos q] at h1 h2 h3 ⊢
      refine ⟨by omega, fun k hk => ?_, ?_⟩
      · rcases List.mem_cons.mp hk with e | hk
        · omega
        · exact h2 k hk
      · rcases h3 with e | e
        · right; rw [e]; exact List.mem_cons_self
        · right; exact List.mem_cons_of_mem _ e
    · rw [if_neg q] at h1 h2 h3 ⊢
      refine ⟨h1, fun k hk => ?_, ?_⟩
      · rcases List.mem_cons.mp hk with e | hk
        · omega
        · exact h2 k hk
      · rcases h3 with e | e
        · left; exact e
        · right; exact List.mem_cons_of_mem _ e
theorem minL_le : ∀ (r : List Int) (n : Int), minL n r ≤ n ∧ (∀ m ∈ r, minL n r ≤ m) ∧ (minL n r = n ∨ minL n r ∈ r)
  | [], n => ⟨Int.le_refl _, fun _ h => by simp at h, .inl rfl⟩
  | m :: r, n => by
    obtain ⟨h1, h2, h3⟩ := minL_le r (if m < n then m else n)
    show minL _ r ≤ n ∧ (∀ k ∈ m :: r, minL _ r ≤ k) ∧ (minL _ r = n ∨ minL _ r ∈ m :: r)
    by_cases q : m < n
    · rw [if_pos q] at h1 h2 h3 ⊢
      refine ⟨by omega, fun k hk => ?_, ?_⟩
      · rcases List.mem_cons.mp hk with e | hk
        · omega
        · exact h2 k hk
      · rcases h3 with e | e
        · right; rw [e]; exact List.mem_cons_self
        · right; exact List.mem_cons_of_mem _ e
    · rw [if_neg q] at h1 h2 h3 ⊢
      refine ⟨h1, fun k hk => ?_, ?_⟩
      · rcases List.mem_cons.mp hk with e | hk
        · omega
        · exact h2 k hk
      · rcases h3 with e | e
        · left; exact e
        · right; exact List.mem_cons_of_mem _ e
def dMax : D → W D
  | .lst ds => (match intsD ds with
    | some (n :: r) => .ok (.int (maxL n r))
    | _ => .stuck)
  | _ => .stuck
def dMin : D → W D
  | .lst ds => (match intsD ds with
    | some (n :: r) => .ok (.int (minL n r))
    | _ => .stuck)
  | _ => .stuck
def dMax2 : D → D → W D
  | .int i, .int j => .ok (.int (if j > i then j else i))
  | _, _ => .stuck
def RC1 (K : PySem.W.Frag) (m : Md) (r : List V → Hp → VK → Prop) (f : D → W D) : Prop := RU1 K m (fun v => r [v]) f
def RC2 (K : PySem.W.Frag) (m : Md) (r : List V → Hp → VK → Prop) (f : D → D → W D) : Prop := RD K m (fun v w => r [v, w]) f
section
variable {K : PySem.W.Frag} {mg : Str → Option Value} {Eo : XK} {own : List Nat} {m : Md}
theorem pd_cb1 {r : List V → Hp → VK → Prop} {f : D → W D} {ta : TE} {fa : Env → W D} (hr : RC1 K m r f) (ha : PD K mg Eo own .s ta fa) : PD K mg Eo own m (tCB r (tCons ta tNil)) (fUn f fa) := pd_un hr ha
theorem pd_cb2 {r : List V → Hp → VK → Prop} {f : D → D → W D} {ta tb : TE} {fa fb : Env → W D} (hr : RC2 K m r f) (ha : PD K mg Eo own .s ta fa) (hb : PD K mg Eo own .s tb fb) : PD K mg Eo own m (tCB r (tCons ta (tCons tb tNil))) (fOp f fa fb) := pd_op hr ha hb
theorem rc_len : RC1 K m (rLenU K) dLen := by
  intro M H x v Q e mk hx h
  cases x <;> first | (exact False.elim h) | skip
  · cases hx.val (fun _ q => nomatch q)
    exact ⟨h.1, Post.int h.2⟩
  · obtain ⟨a, xs, rfl, h1, h2⟩ := hx.lst
    exact ⟨xs, .l h1, by rw [DxAll.len h2]; exact Post.int h⟩
  · obtain ⟨a, xs, rfl, h1, h2⟩ := hx.val (fun _ q => nomatch q)
    exact ⟨xs, .inr h1, by rw [DxAll.len h2]; exact Post.int h⟩
theorem rc_abs : RC1 K m rAbsU dAbs := by
  intro M H x v Q e mk hx h
  cases x <;> first | (exact False.elim h) | skip
  cases hx.val (fun _ q => nomatch q)
  exact Post.int h
theorem rc_int : RC1 K m rIntA dInt := by
  intro M H x v Q e mk hx h
  cases x <;> first | (exact False.elim h) | skip
  · cases hx.val (fun _ q => nomatch q)
    exact .inl (Post.int h)
  · cases hx.val (fun _ q => nomatch q)
    exact .inl (Post.int h)
  · rename_i l
    cases hx.val (fun _ q => nomatch q)
    cases q : PySem.intText? (S l) with
    | none => dsimp only [dInt] at h; rw [q] at h; exact False.elim h
    | some n =>
      dsimp only [dInt] at h; rw [q] at h
      exact .inr ⟨_, n, rfl, q, h.1, Post.int h.2⟩
theorem rc_list : RC1 K m (rListU K) dToList := by
  intro M H x v Q e mk hx h
  cases x <;> first | (exact False.elim h) | skip
  · obtain ⟨a, xs, rfl, h1, h2⟩ := hx.lst
    exact ⟨xs, .l h1, fun p np => Post.newl mk h np h2⟩
  · obtain ⟨a, xs, rfl, h1, h2⟩ := hx.val (fun _ q => nomatch q)
    exact ⟨xs, .inr h1, fun p np => Post.newl mk h np h2⟩
theorem rc_tup : RC1 K m (rTupU K) dToTup := by
  intro M H x v Q e mk hx h
  cases x <;> first | (exact False.elim h) | skip
  obtain ⟨a, xs, rfl, h1, h2⟩ := hx.lst
  exact ⟨xs, .of h1, fun p np => Post.newt h np h2⟩
theorem rc_isi : RC2 K m (rIsiU K) dIsi := by
  intro M H x y v w Q e mk hx hy h
  unfold dIsi at h
  split at h
  · rename_i t n ht
    cases hy.val (fun _ q => nomatch q)
    split at h
    · rename_i b hb
      cases x <;> first | (cases ht; done) | skip
      all_goals cases ht
      · cases hx.val (fun _ q => nomatch q); exact ⟨b, hb, Post.bl h⟩
      · cases hx.val (fun _ q => nomatch q); exact ⟨b, hb, Post.bl h⟩
      · cases hx.val (fun _ q => nomatch q); exact ⟨b, hb, Post.bl h⟩
      · cases hx.val (fun _ q => nomatch q); exact ⟨b, hb, Post.bl h⟩
      · obtain ⟨a, xs, rfl, h1, h2⟩ := hx.lst; exact ⟨_, b, sql_ty (.of h1), hb, Post.bl h⟩
      · obtain ⟨a, xs, rfl, h1, h2⟩ := hx.val (fun _ q => nomatch q); exact ⟨_, b, sqt_ty h1, hb, Post.bl h⟩
    · exact False.elim h
  · exact False.elim h
theorem rc_sum : RC1 K m (rSum K) dSum := by
  intro M H x v Q e mk hx h
  cases x <;> first | (exact False.elim h) | skip
  rename_i ds
  obtain ⟨a, xs, rfl, h1, h2⟩ := hx.lst
  cases q : intsD ds with
  | none => dsimp only [dSum] at h; rw [q] at h; exact False.elim h
  | some ns =>
    dsimp only [dSum] at h; rw [q] at h
    rw [intsD_eq q] at h2
    rw [dxi_eq h2] at h1
    exact ⟨a, ns, rfl, .of h1, Post.int (show Post K M H Q m (.int ns.sum) from h)⟩
theorem rc_all : RC1 K m (rAll K) dAll := by
  intro M H x v Q e mk hx h
  cases x <;> first | (exact False.elim h) | skip
  rename_i ds
  obtain ⟨a, xs, rfl, h1, h2⟩ := hx.lst
  cases q : boolsD ds with
  | none => dsimp only [dAll] at h; rw [q] at h; exact False.elim h
  | some ns =>
    dsimp only [dAll] at h; rw [q] at h
    rw [boolsD_eq q] at h2
    rw [dxb_eq h2] at h1
    exact ⟨a, ns, rfl, .of h1, Post.bl (show Post K M H Q m (.bl (ns.all id)) from h)⟩
theorem rc_any : RC1 K m (rAny K) dAny := by
  intro M H x v Q e mk hx h
  cases x <;> first | (exact False.elim h) | skip
  rename_i ds
  obtain ⟨a, xs, rfl, h1, h2⟩ := hx.lst
  cases q : boolsD ds with
  | none => dsimp only [dAny] at h; rw [q] at h; exact False.elim h
  | some ns =>
    dsimp only [dAny] at h; rw [q] at h
    rw [boolsD_eq q] at h2
    rw [dxb_eq h2] at h1
    exact ⟨a, ns, rfl, .of h1, Post.bl (show Post K M H Q m (.bl (ns.any id)) from h)⟩
theorem rc_max : RC1 K m (rMax K) dMax := by
  intro M H x v Q e mk hx h
  cases x <;> first | (exact False.elim h) | skip
  rename_i ds
  obtain ⟨a, xs, rfl, h1, h2⟩ := hx.lst
  cases q : intsD ds with
  | none => dsimp only [dMax] at h; rw [q] at h; exact False.elim h
  | some ns =>
    cases ns with
    | nil => dsimp only [dMax] at h; rw [q] at h; exact False.elim h
    | cons n r =>
      dsimp only [dMax] at h; rw [q] at h
      rw [intsD_eq q] at h2
      rw [dxi_eq h2] at h1
      refine ⟨a, n :: r, rfl, .of h1, Nat.succ_pos _, fun k hk hg => ?_⟩
      obtain ⟨g1, g2, g3⟩ := maxL_ge r n
      have e : k = maxL n r := by
        have u1 : k ≤ maxL n r := by
          rcases List.mem_cons.mp hk with e | hk
          · rw [e]; exact g1
          · exact g2 k hk
        have u2 : maxL n r ≤ k := by
          rcases g3 with e | e
          · rw [e]; exact hg n List.mem_cons_self
          · exact hg _ (List.mem_cons_of_mem _ e)
        omega
      rw [e]
      exact Post.int (show Post K M H Q m (.int (maxL n r)) from h)
theorem rc_min : RC1 K m (rMin K) dMin := by
  intro M H x v Q e mk hx h
  cases x <;> first | (exact False.elim h) | skip
  rename_i ds
  obtain ⟨a, xs, rfl, h1, h2⟩ := hx.lst
  cases q : intsD ds with
  | none => dsimp only [dMin] at h; rw [q] at h; exact False.elim h
  | some ns =>
    cases ns with
    | nil => dsimp only [dMin] at h; rw [q] at h; exact False.elim h
    | cons n r =>
      dsimp only [dMin] at h; rw [q] at h
      rw [intsD_eq q] at h2
      rw [dxi_eq h2] at h1
      refine ⟨a, n :: r, rfl, .of h1, Nat.succ_pos _, fun k hk hg => ?_⟩
      obtain ⟨g1, g2, g3⟩ := minL_le r n
      have e : k = minL n r := by
        have u1 : minL n r ≤ k := by
          rcases List.mem_cons.mp hk with e | hk
          · rw [e]; exact g1
          · exact g2 k hk
        have u2 : k ≤ minL n r := by
          rcases g3 with e | e
          · rw [e]; exact hg n List.mem_cons_self
          · exact hg _ (List.mem_cons_of_mem _ e)
        omega
      rw [e]
      exact Post.int (show Post K M H Q m (.int (minL n r)) from h)
theorem rc_max2 : RC2 K m (fun xs H Q => ∃ i j, xs = [.int i, .int j] ∧ Q (.int (if j > i then j else i)) H) dMax2 := by
  intro M H x y v w Q e mk hx hy h
  cases x <;> cases y <;> first | (exact False.elim h) | skip
  cases hx.val (fun _ q => nomatch q); cases hy.val (fun _ q => nomatch q)
  exact ⟨_, _, rfl, Post.int h⟩
end
/-! ### targets -/
def PGD (K : PySem.W.Frag) (own vs : List Nat) (g : TG) (fg : D → Env → W Env) : Prop := ∀ (M : Addr → Prop) (ρ : Env) (σ : L2.St) (H : Hp) (d : D) (v : V) (Q : L2.St → Hp → Prop) (e : Str → Prop), EnvE K M own H σ ρ → Dx K M H d v →
  (fg d ρ).run (fun ρ' => ∀ σ', EnvE K M own H σ' ρ' → (∀ j, j ∉ vs → σ'[j]? = σ[j]?) → (∀ j, j ∉ vs → ρ'[j]? = ρ[j]?) → σ'.length = σ.length → Q σ' H) e → g v σ H Q
def PGsD (K : PySem.W.Frag) (own vs : List Nat) (g : TGs) (fg : List D → Env → W Env) : Prop := ∀ (M : Addr → Prop) (ρ : Env) (σ : L2.St) (H : Hp) (d : List D) (v : List V) (Q : L2.St → Hp → Prop) (e : Str → Prop), EnvE K M own H σ ρ → DxAll K M H d v →
  (fg d ρ).run (fun ρ' => ∀ σ', EnvE K M own H σ' ρ' → (∀ j, j ∉ vs → σ'[j]? = σ[j]?) → (∀ j, j ∉ vs → ρ'[j]? = ρ[j]?) → σ'.length = σ.length → Q σ' H) e → g v σ H Q
def fgN (i : Nat) : D → Env → W Env := fun d ρ => .ok (ρ.set i (some d))
def fgs0 : List D → Env → W Env
  | [], ρ => .ok ρ
  | _ :: _, _ => .stuck
def fgs1 (f : D → Env → W Env) (g : List D → Env → W Env) : List D → Env → W Env
  | d :: ds, ρ => (f d ρ).bind (g ds)
  | [], _ => .stuck
def fgT (n : Nat) (f : List D → Env → W Env) : D → Env → W Env
  | .tup ds, ρ => .chk (ds.length = n) (f ds ρ)
  | _, _ => .stuck
section
variable {K : PySem.W.Frag} {own vs : List Nat}
theorem EnvE.set {M : Addr → Prop} {H : Hp} {σ : L2.St} {ρ : Env} {i : Nat} {d : D} {v : V} (E : EnvE K M own H σ ρ) (hi : i ∉ own) (h : Dx K M H d v) : EnvE K M own H (σ.set i (some v)) (ρ.set i (some d)) := by
  refine ⟨by rw [List.length_set, List.length_set]; exact E.len, fun j d' n e => ?_, fun j d' n e => ?_⟩
  · by_cases q : i = j
    · subst q
      have hl : i < ρ.length := by
        by_cases z : i < ρ.length
        · exact z
        · rw [List.getElem?_eq_none (by rw [List.length_set]; omega)] at e; cases e
      rw [List.getElem?_set_self hl] at e
      cases e
      exact ⟨v, List.getElem?_set_self (by rw [E.len]; exact hl), h⟩
    · rw [List.getElem?_set_ne q] at e
      rw [List.getElem?_set_ne q]
      exact E.val j d' n e
  · have q : i ≠ j := fun q => hi (q ▸ n)
    rw [List.getElem?_set_ne q] at e
    rw [List.getElem?_set_ne q]
    exact E.own j d' n e
theorem pgd_n {i : Nat} (h1 : i ∈ vs) (h2 : i ∉ own) : PGD K own vs (gName i) (fgN i) := fun M ρ σ H d v Q e E r h =>
  h _ (E.set h2 r) (fun j hj => List.getElem?_set_ne fun (q : i = j) => hj (q ▸ h1)) (fun j hj => List.getElem?_set_ne fun (q : i = j) => hj (q ▸ h1)) (List.length_set ..)
theorem pgs_0 : PGsD K own vs gNil fgs0 := fun M ρ σ H d v Q e E r h => by
  cases d with
  | nil => cases r; exact ⟨rfl, h σ E (fun _ _ => rfl) (fun _ _ => rfl) rfl⟩
  | cons _ _ => exact False.elim h
theorem pgs_1 {g : TG} {gs : TGs} {f : D → Env → W Env} {fs : List D → Env → W Env} (hg : PGD K own vs g f) (hs : PGsD K own vs gs fs) : PGsD K own vs (gCons g gs) (fgs1 f fs) := fun M ρ σ H d v Q e E r h => by
  cases d with
  | nil => exact False.elim h
  | cons d ds =>
    obtain ⟨x, xs, rfl, r1, r2⟩ := r
    refine ⟨x, xs, rfl, hg M ρ σ H d x _ _ E r1 ((f d ρ).mono (fun ρ1 p σ1 E1 a1 b1 c1 => ?_) (fun _ z => z) h)⟩
    exact hs M ρ1 σ1 H ds xs Q _ E1 r2 ((fs ds ρ1).mono (fun ρ2 p σ2 E2 a2 b2 c2 => p σ2 E2 (fun j hj => (a2 j hj).trans (a1 j hj)) (fun j hj => (b2 j hj).trans (b1 j hj)) (c2.trans c1)) (fun _ z => z) p)
theorem pgd_t {n : Nat} {gs : TGs} {fs : List D → Env → W Env} (hs : PGsD K own vs gs fs) : PGD K own vs (gTup K n gs) (fgT n fs) := fun M ρ σ H d v Q e E r h => by
  cases d <;> first | (exact False.elim h) | skip
  obtain ⟨a, xs, rfl, h1, h2⟩ := r
  exact ⟨a, xs, rfl, h1, by rw [DxAll.len h2]; exact h.1, hs M ρ σ H _ xs Q e E h2 h.2⟩
end
/-! ### what is walked -/
def Serves (K : PySem.W.Frag) (M : Addr → Prop) (R : Hp → Hp → Prop) (J : It) (H : Hp) (ds : List D) : Prop :=
  ∀ H', R H H' → (∀ (i : Nat) (d : D), ds[i]? = some d → J.go i H' ∧ ∀ x H2, J.yld i H' x H2 → Ex H' H2 ∧ Dx K M H2 d x) ∧ (∀ i, ds.length ≤ i → J.stop i H')
structure Srv (K : PySem.W.Frag) (M : Addr → Prop) (J : It) (H : Hp) (st : Bool) (ds : List D) : Prop where
  ex : ∀ M', (∀ ds vs, DxAll K M H ds vs → DxAll K M' H ds vs) → Serves K M' Ex J H ds
  kx : st = true → ∀ M', (∀ b, M' b → M b ∨ H b = none) → Serves K M' (Kx K M) J H ds
def PDI (K : PySem.W.Frag) (mg : Str → Option Value) (Eo : XK) (own : List Nat) (st : Bool) (wi : TI) (fi : Env → W (List D)) : Prop := ∀ (M : Addr → Prop) (ρ : Env) (σ : L2.St) (H : Hp) (R : It → Hp → Prop), Mk M H → EnvE K M own H σ ρ → (fi ρ).run (fun ds => ∀ J H', Ex H H' → Srv K M J H' st ds → R J H') (PostX mg H Eo) → wi σ H R
def itemsD : D → W (List D)
  | .str l => .ok (l.map fun c => .str [c])
  | .lst ds => .ok ds
  | .tup ds => .ok ds
  | _ => .stuck
def fItems (fe : Env → W D) : Env → W (List D) := fun ρ => (fe ρ).bind itemsD
def rangeD (lo : Int) (n : Nat) : List D := (List.range n).map fun (k : Nat) => D.int (lo + (k : Int))
def fRng1 (fa : Env → W (List D)) : Env → W (List D) := fun ρ => (fa ρ).bind fun
  | [.int j] => .chk (-(2 ^ 62) ≤ j ∧ j < 2 ^ 62) (.ok (rangeD 0 j.toNat))
  | _ => .stuck
def fRng2 (fa : Env → W (List D)) : Env → W (List D) := fun ρ => (fa ρ).bind fun
  | [.int i, .int j] => .chk (-(2 ^ 62) ≤ i ∧ i < 2 ^ 62 ∧ -(2 ^ 62) ≤ j ∧ j < 2 ^ 62) (.ok (rangeD i (j - i).toNat))
  | _ => .stuck
def enumD (ds : List D) : List D := ds.mapIdx fun (k : Nat) d => D.tup [.int (k : Int), d]
def fEnum (fa : Env → W (List D)) : Env → W (List D) := fun ρ => (fa ρ).bind fun
  | [.lst ds] => .ok (enumD ds)
  | _ => .stuck
def zipD (ds es : List D) : List D := List.zipWith (fun d e => D.tup [d, e]) ds es
def fZip (fa : Env → W (List D)) : Env → W (List D) := fun ρ => (fa ρ).bind fun
  | [.lst ds, .lst es] => .ok (zipD ds es)
  | _ => .stuck
def revD : D → W (List D)
  | .lst ds => .ok ds.reverse
  | .tup ds => .ok ds.reverse
  | _ => .stuck
def fRev (fe : Env → W D) : Env → W (List D) := fun ρ => (fe ρ).bind revD
section
variable {K : PySem.W.Frag} {M : Addr → Prop} {H : Hp}
theorem rep_ex {M' : Addr → Prop} (h : ∀ ds vs, DxAll K M H ds vs → DxAll K M' H ds vs) {d : D} {v : V} (r : Dx K M H d v) : Dx K M' H d v := by
  obtain ⟨x, t, e, r', _⟩ := h [d] [v] ⟨v, [], rfl, r, rfl⟩
  cases e
  exact r'
theorem srv_l {a : Addr} {xs : List V} {ds : List D} {st : Bool} (h : H a = some (.lst xs)) (r : DxAll K M H ds xs) (n : st = true → ¬ M a) : Srv K M (Itl K a) H st ds := by
  have hl := DxAll.len r
  refine ⟨fun M' k H' e => ⟨fun i d hd => ?_, fun i hi => ⟨xs, .of (e _ _ h), by omega⟩⟩, fun s M' c H' e => ⟨fun i d hd => ?_, fun i hi => ⟨xs, .of (e.k _ _ (n s) h), by omega⟩⟩⟩
  · obtain ⟨v, hv, rv⟩ := DxAll.get ((k _ _ r).ex e) hd
    refine ⟨⟨xs, v, .of (e _ _ h), hv⟩, ?_⟩
    rintro x H2 ⟨rfl, y⟩
    have := y xs (.of (e _ _ h))
    rw [hv] at this
    cases this
    exact ⟨Evl.Ex.refl _, rv⟩
  · obtain ⟨v, hv, rv⟩ := DxAll.get (DxAll.keep c e r) hd
    refine ⟨⟨xs, v, .of (e.k _ _ (n s) h), hv⟩, ?_⟩
    rintro x H2 ⟨rfl, y⟩
    have := y xs (.of (e.k _ _ (n s) h))
    rw [hv] at this
    cases this
    exact ⟨Evl.Ex.refl _, rv⟩
theorem srv_t {a : Addr} {xs : List V} {ds : List D} {st : Bool} (h : SqT K H a xs) (r : DxAll K M H ds xs) : Srv K M (Itt K a) H st ds := by
  have hl := DxAll.len r
  refine ⟨fun M' k H' e => ⟨fun i d hd => ?_, fun i hi => ⟨xs, Evl.ex_t e h, by omega⟩⟩, fun s M' c H' e => ⟨fun i d hd => ?_, fun i hi => ⟨xs, e.t _ _ h, by omega⟩⟩⟩
  · obtain ⟨v, hv, rv⟩ := DxAll.get ((k _ _ r).ex e) hd
    refine ⟨⟨xs, v, Evl.ex_t e h, hv⟩, ?_⟩
    rintro x H2 ⟨rfl, y⟩
    have := y xs (Evl.ex_t e h)
    rw [hv] at this
    cases this
    exact ⟨Evl.Ex.refl _, rv⟩
  · obtain ⟨v, hv, rv⟩ := DxAll.get (DxAll.keep c e r) hd
    refine ⟨⟨xs, v, e.t _ _ h, hv⟩, ?_⟩
    rintro x H2 ⟨rfl, y⟩
    have := y xs (e.t _ _ h)
    rw [hv] at this
    cases this
    exact ⟨Evl.Ex.refl _, rv⟩
theorem its_core {l : List Nat} {H' : Hp} {M' : Addr → Prop} : (∀ (i : Nat) (d : D), (l.map fun c => D.str [c])[i]? = some d → (Its (S l)).go i H' ∧ ∀ x H2, (Its (S l)).yld i H' x H2 → Ex H' H2 ∧ Dx K M' H2 d x) ∧ (∀ i, (l.map fun c => D.str [c]).length ≤ i → (Its (S l)).stop i H') := by
  refine ⟨fun i d hd => ?_, fun i hi => ?_⟩
  · rw [List.getElem?_map] at hd
    cases q : l[i]? with
    | none => rw [q] at hd; cases hd
    | some c =>
      rw [q] at hd
      cases hd
      have hlt : i < l.length := (List.getElem?_eq_some_iff.mp q).1
      refine ⟨hlt, ?_⟩
      rintro x H2 ⟨rfl, c', hc, rfl⟩
      have e : (S l).cps[i]? = l[i]? := List.getElem?_toArray
      rw [e, q] at hc
      cases hc
      exact ⟨Evl.Ex.refl _, rfl⟩
  · rw [List.length_map] at hi
    exact hi
theorem srv_s {l : List Nat} {st : Bool} : Srv K M (Its (S l)) H st (l.map fun c => D.str [c]) := ⟨fun _ _ _ _ => its_core, fun _ _ _ _ _ => its_core⟩
theorem itr_core {lo : Int} {n : Nat} {H' : Hp} {M' : Addr → Prop} : (∀ (i : Nat) (d : D), (rangeD lo n)[i]? = some d → (Itr lo n).go i H' ∧ ∀ x H2, (Itr lo n).yld i H' x H2 → Ex H' H2 ∧ Dx K M' H2 d x) ∧ (∀ i, (rangeD lo n).length ≤ i → (Itr lo n).stop i H') := by
  refine ⟨fun i d hd => ?_, fun i hi => ?_⟩
  · unfold rangeD at hd
    rw [List.getElem?_map] at hd
    cases q : (List.range n)[i]? with
    | none => rw [q] at hd; cases hd
    | some c =>
      rw [q] at hd
      cases hd
      have hlt : i < (List.range n).length := (List.getElem?_eq_some_iff.mp q).1
      rw [List.length_range] at hlt
      rw [List.getElem?_range hlt] at q
      cases q
      refine ⟨hlt, ?_⟩
      rintro x H2 ⟨rfl, rfl⟩
      exact ⟨Evl.Ex.refl _, rfl⟩
  · unfold rangeD at hi
    rw [List.length_map, List.length_range] at hi
    exact hi
theorem srv_r {lo : Int} {n : Nat} {st : Bool} : Srv K M (Itr lo n) H st (rangeD lo n) := ⟨fun _ _ _ _ => itr_core, fun _ _ _ _ _ => itr_core⟩
theorem enumD_get {ds : List D} {i : Nat} {d : D} (h : (enumD ds)[i]? = some d) : ∃ e, ds[i]? = some e ∧ d = .tup [.int (i : Int), e] := by
  unfold enumD at h
  rw [List.getElem?_mapIdx] at h
  cases q : ds[i]? with
  | none => rw [q] at h; cases h
  | some e => rw [q] at h; cases h; exact ⟨e, rfl, rfl⟩
theorem srv_e {a : Addr} {xs : List V} {ds : List D} {st : Bool} (h : H a = some (.lst xs)) (r : DxAll K M H ds xs) (n : st = true → ¬ M a) : Srv K M (Ite K a) H st (enumD ds) := by
  have hl := DxAll.len r
  have hle : (enumD ds).length = ds.length := List.length_mapIdx
  refine ⟨fun M' k H' e => ⟨fun i d hd => ?_, fun i hi => ⟨xs, .of (e _ _ h), by omega⟩⟩, fun s M' c H' e => ⟨fun i d hd => ?_, fun i hi => ⟨xs, .of (e.k _ _ (n s) h), by omega⟩⟩⟩
  · obtain ⟨d', hd', rfl⟩ := enumD_get hd
    obtain ⟨v, hv, rv⟩ := DxAll.get ((k _ _ r).ex e) hd'
    refine ⟨⟨xs, v, .of (e _ _ h), hv⟩, ?_⟩
    rintro x H2 ⟨T, y, rfl, nT, rfl, hy⟩
    have := hy xs (.of (e _ _ h))
    rw [hv] at this
    cases this
    exact ⟨Evl.Ex.new nT, T, _, rfl, .of upd_same, _, _, rfl, rfl, _, _, rfl, rv.ex (Evl.Ex.new nT), rfl⟩
  · obtain ⟨d', hd', rfl⟩ := enumD_get hd
    obtain ⟨v, hv, rv⟩ := DxAll.get (DxAll.keep c e r) hd'
    refine ⟨⟨xs, v, .of (e.k _ _ (n s) h), hv⟩, ?_⟩
    rintro x H2 ⟨T, y, rfl, nT, rfl, hy⟩
    have := hy xs (.of (e.k _ _ (n s) h))
    rw [hv] at this
    cases this
    exact ⟨Evl.Ex.new nT, T, _, rfl, .of upd_same, _, _, rfl, rfl, _, _, rfl, rv.ex (Evl.Ex.new nT), rfl⟩
theorem zipD_get {ds es : List D} {i : Nat} {d : D} (h : (zipD ds es)[i]? = some d) : ∃ x y, ds[i]? = some x ∧ es[i]? = some y ∧ d = .tup [x, y] := by
  unfold zipD at h
  rw [List.getElem?_zipWith] at h
  cases q : ds[i]? with
  | none => rw [q] at h; cases h
  | some x =>
    cases q2 : es[i]? with
    | none => rw [q, q2] at h; cases h
    | some y => rw [q, q2] at h; cases h; exact ⟨x, y, rfl, rfl, rfl⟩
theorem zip_core {P Q : List V → Prop} {go : Prop} {i : Nat} {d : D} {H' : Hp} {xs ys : List V} {ds es : List D} {M' : Addr → Prop} (hp : P xs) (hq : Q ys) (r1 : DxAll K M' H' ds xs) (r2 : DxAll K M' H' es ys) (hd : (zipD ds es)[i]? = some d) :
    (∃ x y, xs[i]? = some x ∧ ys[i]? = some y) ∧ ∀ v H2, (∃ T x y, v = .ref T ∧ H' T = none ∧ H2 = upd H' T (.tup [x, y]) ∧ (∀ xs, P xs → xs[i]? = some x) ∧ ∀ ys, Q ys → ys[i]? = some y) → Ex H' H2 ∧ Dx K M' H2 d v := by
  obtain ⟨x, y, hx, hy, rfl⟩ := zipD_get hd
  obtain ⟨v, hv, rv⟩ := DxAll.get r1 hx
  obtain ⟨w, hw, rw'⟩ := DxAll.get r2 hy
  refine ⟨⟨v, w, hv, hw⟩, ?_⟩
  rintro u H2 ⟨T, a, b, rfl, nT, rfl, g1, g2⟩
  have e1 := g1 xs hp
  have e2 := g2 ys hq
  rw [hv] at e1; rw [hw] at e2
  cases e1; cases e2
  exact ⟨Evl.Ex.new nT, T, _, rfl, .of upd_same, _, _, rfl, rv.ex (Evl.Ex.new nT), _, _, rfl, rw'.ex (Evl.Ex.new nT), rfl⟩
theorem zipD_len (ds es : List D) : (zipD ds es).length = min ds.length es.length := List.length_zipWith
theorem srv_z {a b : Addr} {xs ys : List V} {ds es : List D} {st : Bool} (h : H a = some (.lst xs)) (r : DxAll K M H ds xs) (n : st = true → ¬ M a) (h' : H b = some (.lst ys)) (r' : DxAll K M H es ys) (n' : st = true → ¬ M b) : Srv K M (Itz K a b) H st (zipD ds es) := by
  have hl := DxAll.len r
  have hl' := DxAll.len r'
  have hz := zipD_len ds es
  refine ⟨fun M' k H' e => ⟨fun i d hd => ?_, fun i hi => ⟨xs, ys, .of (e _ _ h), .of (e _ _ h'), by omega⟩⟩, fun s M' c H' e => ⟨fun i d hd => ?_, fun i hi => ⟨xs, ys, .of (e.k _ _ (n s) h), .of (e.k _ _ (n' s) h'), by omega⟩⟩⟩
  · obtain ⟨⟨x, y, g1, g2⟩, g3⟩ := zip_core (go := True) (P := fun xs => SqL K H' a xs) (Q := fun ys => SqL K H' b ys) (.of (e _ _ h)) (.of (e _ _ h')) ((k _ _ r).ex e) ((k _ _ r').ex e) hd
    exact ⟨⟨xs, ys, x, y, .of (e _ _ h), .of (e _ _ h'), g1, g2⟩, g3⟩
  · obtain ⟨⟨x, y, g1, g2⟩, g3⟩ := zip_core (go := True) (P := fun xs => SqL K H' a xs) (Q := fun ys => SqL K H' b ys) (.of (e.k _ _ (n s) h)) (.of (e.k _ _ (n' s) h')) (DxAll.keep c e r) (DxAll.keep c e r') hd
    exact ⟨⟨xs, ys, x, y, .of (e.k _ _ (n s) h), .of (e.k _ _ (n' s) h'), g1, g2⟩, g3⟩
theorem revD_get {ds : List D} {i : Nat} {d : D} (h : ds.reverse[i]? = some d) : i < ds.length ∧ ds[ds.length - 1 - i]? = some d := by
  have hi : i < ds.length := by
    have := (List.getElem?_eq_some_iff.mp h).1
    rw [List.length_reverse] at this; exact this
  rw [List.getElem?_reverse hi] at h
  exact ⟨hi, h⟩
theorem srv_v {a : Addr} {xs : List V} {ds : List D} {st : Bool} (h : H a = some (.lst xs)) (r : DxAll K M H ds xs) (n : st = true → ¬ M a) : Srv K M (Itv K a xs.length) H st ds.reverse := by
  have hl := DxAll.len r
  have hr : ds.reverse.length = ds.length := List.length_reverse
  refine ⟨fun M' k H' e => ⟨fun i d hd => ?_, fun i hi => (show xs.length ≤ i by omega)⟩, fun s M' c H' e => ⟨fun i d hd => ?_, fun i hi => (show xs.length ≤ i by omega)⟩⟩
  · obtain ⟨hi, hd'⟩ := revD_get hd
    rw [← hl] at hd'
    obtain ⟨v, hv, rv⟩ := DxAll.get ((k _ _ r).ex e) hd'
    refine ⟨⟨by omega, xs, v, .of (e _ _ h), hv⟩, ?_⟩
    rintro x H2 ⟨rfl, y⟩
    have := y xs (.of (e _ _ h))
    rw [hv] at this
    cases this
    exact ⟨Evl.Ex.refl _, rv⟩
  · obtain ⟨hi, hd'⟩ := revD_get hd
    rw [← hl] at hd'
    obtain ⟨v, hv, rv⟩ := DxAll.get (DxAll.keep c e r) hd'
    refine ⟨⟨by omega, xs, v, .of (e.k _ _ (n s) h), hv⟩, ?_⟩
    rintro x H2 ⟨rfl, y⟩
    have := y xs (.of (e.k _ _ (n s) h))
    rw [hv] at this
    cases this
    exact ⟨Evl.Ex.refl _, rv⟩
theorem srv_vt {a : Addr} {xs : List V} {ds : List D} {st : Bool} (h : SqT K H a xs) (r : DxAll K M H ds xs) : Srv K M (RT.ItvT K a xs.length) H st ds.reverse := by
  have hl := DxAll.len r
  have hr : ds.reverse.length = ds.length := List.length_reverse
  refine ⟨fun M' k H' e => ⟨fun i d hd => ?_, fun i hi => (show xs.length ≤ i by omega)⟩, fun s M' c H' e => ⟨fun i d hd => ?_, fun i hi => (show xs.length ≤ i by omega)⟩⟩
  · obtain ⟨hi, hd'⟩ := revD_get hd
    rw [← hl] at hd'
    obtain ⟨v, hv, rv⟩ := DxAll.get ((k _ _ r).ex e) hd'
    refine ⟨⟨by omega, xs, v, Evl.ex_t e h, hv⟩, ?_⟩
    rintro x H2 ⟨rfl, y⟩
    have := y xs (Evl.ex_t e h)
    rw [hv] at this
    cases this
    exact ⟨Evl.Ex.refl _, rv⟩
  · obtain ⟨hi, hd'⟩ := revD_get hd
    rw [← hl] at hd'
    obtain ⟨v, hv, rv⟩ := DxAll.get (DxAll.keep c e r) hd'
    refine ⟨⟨by omega, xs, v, e.t _ _ h, hv⟩, ?_⟩
    rintro x H2 ⟨rfl, y⟩
    have := y xs (e.t _ _ h)
    rw [hv] at this
    cases this
    exact ⟨Evl.Ex.refl _, rv⟩
end
section
variable {K : PySem.W.Frag} {mg : Str → Option Value} {Eo : XK} {own : List Nat} {st : Bool}
theorem items_core {M : Addr → Prop} {H : Hp} {x : D} {v : V} {R : It → Hp → Prop} {e : Str → Prop} (hx : DxS K M H x v) (hv : st = true → Dx K M H x v) (h : (itemsD x).run (fun ds => ∀ J H', Ex H H' → Srv K M J H' st ds → R J H') e) : match (generalizing := false) v with
    | .str z => R (Its z) H
    | .ref a => ((∃ xs, SqL K H a xs) ∧ R (Itl K a) H) ∨ ((∃ xs, SqT K H a xs) ∧ R (Itt K a) H)
    | _ => False := by
  cases x <;> first | (exact False.elim h) | skip
  · cases hx.val (fun _ q => nomatch q)
    exact h _ H (Evl.Ex.refl H) srv_s
  · obtain ⟨a, xs, rfl, h1, h2⟩ := hx.lst
    refine .inl ⟨⟨xs, .of h1⟩, h _ H (Evl.Ex.refl H) (srv_l h1 h2 fun s => ?_)⟩
    obtain ⟨a', _, e, n, _⟩ := hv s
    cases e
    exact n
  · obtain ⟨a, xs, rfl, h1, h2⟩ := hx.val (fun _ q => nomatch q)
    exact .inr ⟨⟨xs, h1⟩, h _ H (Evl.Ex.refl H) (srv_t h1 h2)⟩
/-- what a comprehension walks -/
theorem pdi_any {te : TE} {fe : Env → W D} (h : PD K mg Eo own .s te fe) : PDI K mg Eo own false (iAnyU K te) (fItems fe) := fun M ρ σ H R mk E r =>
  h M ρ σ H _ mk E ((fe ρ).mono (fun x p v H1 e1 r1 => items_core (st := false) r1 (fun z => nomatch z) ((itemsD x).mono (fun ds p J H' e' s => p J H' (e1.trans e') s) (fun _ z => z) p)) (fun _ z => z) r)
/-- what a for statement walks -/
theorem pdi_for {te : TE} {fe : Env → W D} (h : PD K mg Eo own .v te fe) : PDI K mg Eo own true (iAnyU K te) (fItems fe) := fun M ρ σ H R mk E r =>
  h M ρ σ H _ mk E ((fe ρ).mono (fun x p v H1 e1 r1 => items_core (st := true) (.inl r1) (fun _ => r1) ((itemsD x).mono (fun ds p J H' e' s => p J H' (e1.trans e') s) (fun _ z => z) p)) (fun _ z => z) r)
theorem pdi_r1 {ta : TA} {fa : Env → W (List D)} (h : PDA K mg Eo own ta fa) : PDI K mg Eo own st (iRng1 ta) (fRng1 fa) := fun M ρ σ H R mk E r =>
  h M ρ σ H _ mk E ((fa ρ).mono (fun x p v H1 e1 r1 => by
    match x, p, r1 with
    | [.int j], p, ⟨_, _, e, q1, q2⟩ =>
      cases q1; cases q2
      exact ⟨j, e, p.1.1, p.1.2, p.2 _ _ e1 srv_r⟩) (fun _ z => z) r)
theorem pdi_r2 {ta : TA} {fa : Env → W (List D)} (h : PDA K mg Eo own ta fa) : PDI K mg Eo own st (iRng2 ta) (fRng2 fa) := fun M ρ σ H R mk E r =>
  h M ρ σ H _ mk E ((fa ρ).mono (fun x p v H1 e1 r1 => by
    match x, p, r1 with
    | [.int i, .int j], p, ⟨_, _, e, q1, _, _, e', q2, q3⟩ =>
      cases q1; cases q2; cases q3; cases e'
      exact ⟨i, j, e, p.1, p.2 _ _ e1 srv_r⟩) (fun _ z => z) r)
theorem pdi_en {ta : TA} {fa : Env → W (List D)} (h : PDA K mg Eo own ta fa) : PDI K mg Eo own st (iEnum K ta) (fEnum fa) := fun M ρ σ H R mk E r =>
  h M ρ σ H _ mk E ((fa ρ).mono (fun x p v H1 e1 r1 => by
    match x, p, r1 with
    | [.lst ds], p, ⟨_, _, e, ⟨a, xs, q1, q2, q3, q4⟩, q5⟩ =>
      cases q1; cases q5
      exact ⟨a, xs, e, .of q3, p _ _ e1 (srv_e q3 q4 fun _ => q2)⟩) (fun _ z => z) r)
theorem pdi_rev {te : TE} {fe : Env → W D} (h : PD K mg Eo own .v te fe) : PDI K mg Eo own st (RT.iRevA K te) (fRev fe) := fun M ρ σ H R mk E r =>
  h M ρ σ H _ mk E ((fe ρ).mono (fun x p v H1 e1 r1 => by
    match x, p, r1 with
    | .lst ds, p, ⟨a, xs, q1, q2, q3, q4⟩ =>
      cases q1
      exact ⟨a, xs, rfl, .inl ⟨.of q3, p _ _ e1 (srv_v q3 q4 fun _ => q2)⟩⟩
    | .tup ds, p, ⟨a, xs, q1, q3, q4⟩ =>
      cases q1
      exact ⟨a, xs, rfl, .inr ⟨q3, p _ _ e1 (srv_vt q3 q4)⟩⟩) (fun _ z => z) r)
end
/-! ### comprehensions -/
def wipeD (ρ : Env) : List Nat → Env
  | [] => ρ
  | v :: vs => (wipeD ρ vs).set v none
def lcGo (fg : D → Env → W Env) (ft : Env → W Bool) (fe : Env → W D) (ρ : Env) : List D → W (List D)
  | [] => .ok []
  | d :: ds => (fg d ρ).bind fun ρ2 => (ft ρ2).bind fun b => .ite b ((fe ρ2).bind fun y => (lcGo fg ft fe ρ ds).bind fun r => .ok (y :: r)) (lcGo fg ft fe ρ ds)
def fYes : Env → W Bool := fun _ => .ok true
def fLc (fi : Env → W (List D)) (fg : D → Env → W Env) (ft : Env → W Bool) (fe : Env → W D) (vs : List Nat) : Env → W D := fun ρ => (fi ρ).bind fun ds => .chk (ds.length ≤ 16777216) ((W.calm (lcGo fg ft fe (wipeD ρ vs) ds)).bind fun es => .ok (.lst es))
theorem wipe_get {σ : L2.St} {j : Nat} : ∀ vs : List Nat, (wipe σ vs)[j]? = if j ∈ vs then (σ[j]?).map (fun _ => none) else σ[j]?
  | [] => by rw [if_neg (by simp)]; rfl
  | v :: vs => by
    show ((wipe σ vs).set v none)[j]? = _
    have ih := wipe_get (σ := σ) (j := j) vs
    by_cases q : v = j
    · subst q
      rw [if_pos List.mem_cons_self]
      cases z : σ[v]? with
      | none =>
        have : (wipe σ vs).length ≤ v := by rw [wipe_length]; exact List.getElem?_eq_none_iff.mp z
        rw [List.getElem?_eq_none (by rw [List.length_set]; exact this)]; rfl
      | some u =>
        have : v < (wipe σ vs).length := by rw [wipe_length]; exact (List.getElem?_eq_some_iff.mp z).1
        rw [List.getElem?_set_self this]; rfl
    · rw [List.getElem?_set_ne q, ih]
      by_cases h : j ∈ vs
      · rw [if_pos h, if_pos (List.mem_cons_of_mem _ h)]
      · rw [if_neg h, if_neg (fun z => (List.mem_cons.mp z).elim (fun e => q e.symm) h)]
theorem wipe_eq {σ τ : L2.St} {vs : List Nat} (hl : σ.length = τ.length) (h : ∀ j, j ∉ vs → σ[j]? = τ[j]?) : wipe σ vs = wipe τ vs := by
  refine List.ext_getElem? fun j => ?_
  rw [wipe_get, wipe_get]
  by_cases q : j ∈ vs
  · rw [if_pos q, if_pos q]
    by_cases z : j < σ.length
    · rw [List.getElem?_eq_getElem z, List.getElem?_eq_getElem (by omega)]; rfl
    · rw [List.getElem?_eq_none (by omega), List.getElem?_eq_none (by omega)]
  · rw [if_neg q, if_neg q, h j q]
theorem wipe_wipe (σ : L2.St) (vs : List Nat) : wipe (wipe σ vs) vs = wipe σ vs := by
  refine wipe_eq (wipe_length σ vs) fun j hj => ?_
  rw [wipe_get, if_neg hj]
theorem wipeD_len (ρ : Env) : ∀ vs : List Nat, (wipeD ρ vs).length = ρ.length
  | [] => rfl
  | v :: vs => by unfold wipeD; rw [List.length_set, wipeD_len ρ vs]
theorem wipeD_some {ρ : Env} {i : Nat} {x : D} : ∀ {vs : List Nat}, (wipeD ρ vs)[i]? = some (some x) → ρ[i]? = some (some x) ∧ i ∉ vs
  | [], h => ⟨h, by simp⟩
  | v :: vs, h => by
    unfold wipeD at h
    by_cases hi : v = i
    · subst hi
      by_cases hv : v < (wipeD ρ vs).length
      · rw [List.getElem?_set_self hv] at h; cases h
      · rw [List.getElem?_eq_none (by rw [List.length_set]; omega)] at h; cases h
    · rw [List.getElem?_set_ne hi] at h
      obtain ⟨h1, h2⟩ := wipeD_some h
      exact ⟨h1, by simp only [List.mem_cons, not_or]; exact ⟨fun e => hi e.symm, h2⟩⟩
section
variable {K : PySem.W.Frag} {mg : Str → Option Value} {Eo : XK} {own : List Nat}
theorem EnvE.wipe {M : Addr → Prop} {H : Hp} {σ : L2.St} {ρ : Env} (vs : List Nat) (E : EnvE K M own H σ ρ) : EnvE K M own H (wipe σ vs) (wipeD ρ vs) := by
  refine ⟨by rw [wipe_length, wipeD_len]; exact E.len, fun i d n h => ?_, fun i d n h => ?_⟩
  · obtain ⟨h1, h2⟩ := wipeD_some h
    rw [wipe_get, if_neg h2]
    exact E.val i d n h1
  · obtain ⟨h1, h2⟩ := wipeD_some h
    rw [wipe_get, if_neg h2]
    exact E.own i d n h1
theorem pdt_yes : PDT K mg Eo own tYes fYes := fun M ρ σ H Q mk E h => h H (Evl.Ex.refl H)
/-- [e for t in it if c] -/
theorem pd_lc {m : Md} {vs : List Nat} {wi : TI} {g : TG} {tt : TT} {te : TE} {fi : Env → W (List D)} {fg : D → Env → W Env} {ft : Env → W Bool} {fe : Env → W D}
    (hi : PDI K mg Eo own false wi fi) (hg : PGD K own vs g fg) (ht : PDT K mg E0 own tt ft) (he : PD K mg E0 own .v te fe) : PD K mg Eo own m (tLc wi g tt te vs) (fLc fi fg ft fe vs) := fun M ρ σ H Q mk E h => by
  refine hi M ρ σ H _ mk E ((fi ρ).mono (fun ds p J H1 e1 srv => ?_) (fun _ z => z) h)
  obtain ⟨hlen, p⟩ := p
  intro D nD
  have mk1 := mk.ex e1
  have E1 := E.ex e1
  have sv := srv.ex (M1 M D) (fun ds vs r => DxAll.more nD ds r)
  have xD := Evl.Ex.new (o := .lst []) nD
  refine ⟨fun i n H2 => ∃ es acc, i + n = ds.length ∧ Ex H1 H2 ∧ H2 D = some (.lst acc) ∧ DxAll K (M1 M D) H2 es acc ∧ acc.length ≤ i ∧ (lcGo fg ft fe (wipeD ρ vs) (ds.drop i)).run (fun r => Post K M H1 Q m (.lst (es ++ r))) (fun _ => False),
    ⟨ds.length, [], [], Nat.zero_add _, xD, upd_same, rfl, Nat.zero_le _, ?_⟩, ?_⟩
  · rw [List.drop_zero]
    exact (lcGo fg ft fe (wipeD ρ vs) ds).mono (fun r p => by rw [List.nil_append]; exact Post.mono e1 p) (fun _ z => z) p
  rintro i n H2 ⟨es, acc, hn, ex2, hD, rD, hacc, run⟩
  obtain ⟨sgo, sstop⟩ := sv H2 ex2
  by_cases hlt : i < ds.length
  · have hd : ds[i]? = some ds[i] := List.getElem?_eq_getElem hlt
    generalize ds[i] = d at hd
    obtain ⟨go, yld⟩ := sgo i d hd
    refine .inr ⟨go, fun H3 => ∃ es acc, (i + 1) + (n - 1) = ds.length ∧ Ex H1 H3 ∧ H3 D = some (.lst acc) ∧ DxAll K (M1 M D) H3 es acc ∧ acc.length ≤ i + 1 ∧ (lcGo fg ft fe (wipeD ρ vs) (ds.drop (i + 1))).run (fun r => Post K M H1 Q m (.lst (es ++ r))) (fun _ => False), fun H3 z => ⟨n - 1, by omega, z⟩, ?_⟩
    intro x H3 hy
    obtain ⟨ex3, rx⟩ := yld x H3 hy
    have e13 := ex2.trans ex3
    have hD3 := ex3 _ _ hD
    have mk3 : Mk (M1 M D) H3 := Mk.more mk1 e13 hD3
    have EW : EnvE K (M1 M D) own H3 (wipe σ vs) (wipeD ρ vs) := ((E1.more nD).ex e13).wipe vs
    rw [show ds.drop i = d :: ds.drop (i + 1) from drop_cons hd] at run
    refine hg (M1 M D) (wipeD ρ vs) (wipe σ vs) H3 d x _ _ EW rx ((fg d (wipeD ρ vs)).mono (fun ρ2 p σ2 E2 a2 b2 c2 => ⟨?_, ?_⟩) (fun _ z => z) run)
    · rw [← wipe_wipe σ vs]
      exact wipe_eq c2 a2
    · refine ht (M1 M D) ρ2 σ2 H3 _ mk3 E2 ((ft ρ2).mono (fun b p H4 e4 => ?_) (fun _ z => False.elim z) p)
      have hD4 := e4 _ _ hD3
      have e14 := e13.trans e4
      cases b with
      | false => exact ⟨es, acc, by omega, e14, hD4, rD.ex (ex3.trans e4), by omega, p⟩
      | true =>
        refine he (M1 M D) ρ2 σ2 H4 _ (mk3.ex e4) (E2.ex e4) ((fe ρ2).mono (fun y p v H5 e5 rv => ?_) (fun _ z => False.elim z) p)
        have hD5 := e5 _ _ hD4
        have e15 := e14.trans e5
        refine ⟨acc, hD5, by show acc.length < 16777216; omega, es ++ [y], acc ++ [v], by omega, Evl.Ex.mut e15 nD, upd_same, ?_, by rw [List.length_append, List.length_singleton]; omega, ?_⟩
        · exact DxAll.kx (Kx.upd (.inr rfl) hD5) _ (DxAll.app (rD.ex (ex3.trans (e4.trans e5))) ⟨v, [], rfl, rv, rfl⟩)
        · refine (lcGo fg ft fe (wipeD ρ vs) (ds.drop (i + 1))).mono (fun r p => ?_) (fun _ z => z) p
          rw [List.append_assoc]
          exact p
  · have hi : ds.length ≤ i := by omega
    rw [List.drop_eq_nil_of_le hi] at run
    have run' : Post K M H1 Q m (.lst (es ++ [])) := run
    rw [List.append_nil] at run'
    exact .inl ⟨sstop i hi, Post.made mk1 run' ex2 nD hD rD⟩
end
end NV

set_option Elab.async false
set_option linter.all false
set_option maxRecDepth 100000
set_option maxHeartbeats 4000000
/-! # statements over plain data -/
namespace NV
open PySem PySem.Spec PyProof.Rows L2
open Evl (Ex)
inductive Out where
  | nx (ρ : Env)
  | rt (d : D) (ρ : Env)
  | bk (ρ : Env)
  | ct (ρ : Env)
/-- the addresses of the lists that are passed and changed -/
def Fp (io : List (Nat × Addr)) : Addr → Prop := fun b => ∃ p ∈ io, p.2 = b
abbrev Chk := List ((Addr → Prop) × Hp)
structure EnvS (K : PySem.W.Frag) (own : List Nat) (M0 : Addr → Prop) (B : Hp) (io : List (Nat × Addr)) (cs : Chk) (M : Addr → Prop) (H : Hp) (σ : L2.St) (ρ : Env) : Prop where
  env : EnvE K M own H σ ρ
  mm : Mk M H
  sub : ∀ b, M0 b → M b
  mb : Mk M0 B
  new : ∀ (i : Nat) (d : D) (a : Addr), i ∈ own → ρ[i]? = some (some d) → σ[i]? = some (some (.ref a)) → B a = none ∨ Fp io a
  msk : ∀ c ∈ cs, ∀ b, M b → c.1 b ∨ c.2 b = none
  dis : ∀ (i j : Nat) (d e : D) (a : Addr), i ∈ own → j ∈ own → i ≠ j → ρ[i]? = some (some d) → ρ[j]? = some (some e) → σ[i]? = some (some (.ref a)) → σ[j]? = some (some (.ref a)) → False
  kx : Kx K (Fp io) B H
  ck : ∀ c ∈ cs, Kx K c.1 c.2 H
  fix : ∀ p ∈ io, p.1 ∈ own ∧ σ[p.1]? = some (some (.ref p.2)) ∧ ∃ d, ρ[p.1]? = some (some d)
def IoAt (K : PySem.W.Frag) (M : Addr → Prop) (H : Hp) (io : List (Nat × Addr)) (ρ : Env) : Prop := ∀ p ∈ io, ∃ ds xs, ρ[p.1]? = some (some (.lst ds)) ∧ H p.2 = some (.lst xs) ∧ DxAll K M H ds xs
def PostR (K : PySem.W.Frag) (M0 : Addr → Prop) (B : Hp) (io : List (Nat × Addr)) (Q : VK) : Md → D → Env → Prop
  | .f, d, ρ => ∃ ds, d = .lst ds ∧ ∀ a xs H, Kx K (Fp io) B H → B a = none → H a = some (.lst xs) → DxAll K (M1 M0 a) H ds xs → IoAt K M0 H io ρ → Q (.ref a) H
  | _, d, ρ => ∀ v H, Kx K (Fp io) B H → Dx K M0 H d v → IoAt K M0 H io ρ → Q v H
def PostO (K : PySem.W.Frag) (rm : Md) (M0 : Addr → Prop) (B : Hp) (io : List (Nat × Addr)) (cs : Chk) (oN oB oC : List Nat) (De : Ends) : Out → Prop
  | .nx ρ => ∀ M H σ, EnvS K oN M0 B io cs M H σ ρ → De.nx σ H
  | .bk ρ => ∀ M H σ, EnvS K oB M0 B io cs M H σ ρ → De.bk σ H
  | .ct ρ => ∀ M H σ, EnvS K oC M0 B io cs M H σ ρ → De.ct σ H
  | .rt d ρ => PostR K M0 B io De.rt rm d ρ
def PostY (K : PySem.W.Frag) (mg : Str → Option Value) (B : Hp) (io : List (Nat × Addr)) (Eo : XK) : Str → Prop := fun n => ∀ cls H', Kx K (Fp io) B H' → mg n = some cls → Eo cls none H'
def SD (K : PySem.W.Frag) (mg : Str → Option Value) (Eo : XK) (rm : Md) (ioS own oN oB oC : List Nat) (ts : TS) (fs : Env → W Out) : Prop :=
  ∀ (M0 : Addr → Prop) (B : Hp) (io : List (Nat × Addr)) (cs : Chk) (M : Addr → Prop) (H : Hp) (σ : L2.St) (ρ : Env) (De : Ends), io.map (·.1) = ioS → EnvS K own M0 B io cs M H σ ρ →
    (fs ρ).run (PostO K rm M0 B io cs oN oB oC De) (PostY K mg B io Eo) → ts De σ H
/-! ### what is reckoned -/
def fNext : Env → W Out := fun ρ => .ok (.nx ρ)
def fBreak : Env → W Out := fun ρ => .ok (.bk ρ)
def fCont : Env → W Out := fun ρ => .ok (.ct ρ)
def fSeq (f g : Env → W Out) : Env → W Out := fun ρ => (f ρ).bind fun
  | .nx ρ' => g ρ'
  | .rt d ρ' => .ok (.rt d ρ')
  | .bk ρ' => .ok (.bk ρ')
  | .ct ρ' => .ok (.ct ρ')
def fRet (fe : Env → W D) : Env → W Out := fun ρ => (fe ρ).bind fun d => .ok (.rt d ρ)
def fDrop (fe : Env → W D) : Env → W Out := fun ρ => (fe ρ).bind fun _ => .ok (.nx ρ)
def fSet (i : Nat) (fe : Env → W D) : Env → W Out := fun ρ => (fe ρ).bind fun d => .ok (.nx (ρ.set i (some d)))
def fAsg (fe : Env → W D) (fg : D → Env → W Env) : Env → W Out := fun ρ => (fe ρ).bind fun d => (fg d ρ).bind fun ρ' => .ok (.nx ρ')
def fIfS (ft : Env → W Bool) (fa fb : Env → W Out) : Env → W Out := fun ρ => (ft ρ).bind fun b => .ite b (fa ρ) (fb ρ)
def dIp (f : Int → Int → Int) : D → D → W D
  | .int i, .int j => .ok (.int (f i j))
  | _, _ => .stuck
def fAug (i : Nat) (fe : Env → W D) (f : D → D → W D) : Env → W Out := fun ρ => (fV i ρ).bind fun x => (fe ρ).bind fun y => (f x y).bind fun z => .ok (.nx (ρ.set i (some z)))
def fRaise (n : Str) : Env → W Out := fun _ => .exc n
def fPar (i j : Nat) (fa : Env → W (List D)) : Env → W Out := fun ρ => (fa ρ).bind fun
  | [d, e] => .ok (.nx ((ρ.set i (some d)).set j (some e)))
  | _ => .stuck
def dApp : D → D → W D
  | .lst ds, e => .chk (ds.length < 16777216) (.ok (.lst (ds ++ [e])))
  | _, _ => .stuck
def fApp (i : Nat) (fe : Env → W D) : Env → W Out := fun ρ => (fV i ρ).bind fun d => (fe ρ).bind fun e => (dApp d e).bind fun d' => .ok (.nx (ρ.set i (some d')))
def dExt : D → D → W D
  | .lst ds, .lst es => .chk (ds.length + es.length ≤ 16777216) (.ok (.lst (ds ++ es)))
  | _, _ => .stuck
def fExt (i : Nat) (fe : Env → W D) : Env → W Out := fun ρ => (fV i ρ).bind fun d => (fe ρ).bind fun e => (dExt d e).bind fun d' => .ok (.nx (ρ.set i (some d')))
def dSet : D → D → D → W D
  | .lst ds, .int k, e => (match ixN ds.length k with
    | some j => .ok (.lst (ds.set j e))
    | none => .stuck)
  | _, _, _ => .stuck
def fSub (i : Nat) (fk fe : Env → W D) : Env → W Out := fun ρ => (fe ρ).bind fun e => (fV i ρ).bind fun d => (fk ρ).bind fun k => (dSet d k e).bind fun d' => .ok (.nx (ρ.set i (some d')))
def dPop : D → W (D × D)
  | .lst ds => (match ds[ds.length - 1]? with
    | some d => .ok (d, .lst ds.dropLast)
    | none => .stuck)
  | _ => .stuck
/-- i = j.pop() -/
def fPop (i j : Nat) : Env → W Out := fun ρ => (fV j ρ).bind fun d => (dPop d).bind fun p => .ok (.nx ((ρ.set j (some p.2)).set i (some p.1)))
def fPop0 (j : Nat) : Env → W Out := fun ρ => (fV j ρ).bind fun d => (dPop d).bind fun p => .ok (.nx (ρ.set j (some p.2)))
def forGo (fg : D → Env → W Env) (fb : Env → W Out) : List D → Env → W Out
  | [], ρ => .ok (.nx ρ)
  | d :: ds, ρ => (fg d ρ).bind fun ρ1 => (fb ρ1).bind fun
    | .nx ρ' => forGo fg fb ds ρ'
    | .ct ρ' => forGo fg fb ds ρ'
    | .bk ρ' => .ok (.nx ρ')
    | .rt d ρ' => .ok (.rt d ρ')
def fFor (fi : Env → W (List D)) (fg : D → Env → W Env) (fb : Env → W Out) : Env → W Out := fun ρ => (fi ρ).bind fun ds => forGo fg fb ds ρ
/-- a while, by what holds at each turn -/
def fWhile (ft : Env → W Bool) (fb : Env → W Out) : Env → W Out := fun ρ => ⟨fun q e => ∃ I : Nat → Env → Prop, (∃ n, I n ρ) ∧ ∀ n ρ, I n ρ → (ft ρ).run (fun b => if b = true then (fb ρ).run (fun
    | .nx ρ' => ∃ m, m < n ∧ I m ρ'
    | .ct ρ' => ∃ m, m < n ∧ I m ρ'
    | .bk ρ' => q (.nx ρ')
    | .rt d ρ' => q (.rt d ρ')) e else q (.nx ρ)) e, fun {q q' e e'} hq he h => by
  obtain ⟨I, h0, h⟩ := h
  refine ⟨I, h0, fun n ρ hI => (ft ρ).mono (fun b z => ?_) he (h n ρ hI)⟩
  cases b with
  | false => exact hq _ z
  | true =>
    refine (fb ρ).mono (fun o z => ?_) he z
    cases o with
    | nx ρ' => exact z
    | ct ρ' => exact z
    | bk ρ' => exact hq _ z
    | rt d ρ' => exact hq _ z⟩
section
variable {K : PySem.W.Frag} {own : List Nat} {M0 : Addr → Prop} {B : Hp} {io : List (Nat × Addr)} {cs : Chk} {M : Addr → Prop} {H H' : Hp} {σ σ' : L2.St} {ρ ρ' : Env}
theorem EnvS.ex (E : EnvS K own M0 B io cs M H σ ρ) (e : Ex H H') : EnvS K own M0 B io cs M H' σ ρ :=
  ⟨E.env.ex e, E.mm.ex e, E.sub, E.mb, E.new, E.msk, E.dis, E.kx.trans (Kx.ex e), fun c hc => (E.ck c hc).trans (Kx.ex e), E.fix⟩
/-- slots of values are set -/
theorem EnvS.upd (E : EnvS K own M0 B io cs M H σ ρ) {own' vs : List Nat} (E' : EnvE K M own' H σ' ρ') (ho : ∀ j ∈ own', j ∈ own ∧ j ∉ vs) (hf : ∀ p ∈ io, p.1 ∈ own') (a : ∀ j, j ∉ vs → σ'[j]? = σ[j]?) (b : ∀ j, j ∉ vs → ρ'[j]? = ρ[j]?) : EnvS K own' M0 B io cs M H σ' ρ' := by
  refine ⟨E', E.mm, E.sub, E.mb, fun i d x hi h1 h2 => ?_, E.msk, fun i j d e x hi hj n h1 h2 h3 h4 => ?_, E.kx, E.ck, fun p hp => ?_⟩
  · obtain ⟨g1, g2⟩ := ho i hi
    rw [b i g2] at h1; rw [a i g2] at h2
    exact E.new i d x g1 h1 h2
  · obtain ⟨g1, g2⟩ := ho i hi
    obtain ⟨g3, g4⟩ := ho j hj
    rw [b i g2] at h1; rw [a i g2] at h3; rw [b j g4] at h2; rw [a j g4] at h4
    exact E.dis i j d e x g1 g3 n h1 h2 h3 h4
  · obtain ⟨g1, g2⟩ := ho _ (hf p hp)
    obtain ⟨_, f2, f3⟩ := E.fix p hp
    rw [a _ g2, b _ g2]
    exact ⟨hf p hp, f2, f3⟩
theorem EnvS.fewer (E : EnvS K own M0 B io cs M H σ ρ) {own' : List Nat} (ho : ∀ j ∈ own', j ∈ own) (hn : ∀ j ∈ own, j ∈ own' ∨ ρ[j]? = some none ∨ ρ[j]? = none) (hf : ∀ p ∈ io, p.1 ∈ own') : EnvS K own' M0 B io cs M H σ ρ := by
  refine E.upd (vs := []) ⟨E.env.len, fun i d n h => ?_, fun i d n h => E.env.own i d (ho i n) h⟩ (fun j hj => ⟨ho j hj, by simp⟩) hf (fun _ _ => rfl) (fun _ _ => rfl)
  by_cases q : i ∈ own
  · rcases hn i q with z | z | z
    · exact absurd z n
    · rw [z] at h; cases h
    · rw [z] at h; cases h
  · exact E.env.val i d q h
/-- a list of one's own is let go: a value from here on -/
theorem EnvS.seal (E : EnvS K own M0 B io cs M H σ ρ) (i : Nat) (own' : List Nat) (h1 : ∀ j ∈ own', j ∈ own ∧ j ≠ i) (h2 : ∀ j ∈ own, j ∈ own' ∨ j = i) (h3 : ∀ p ∈ io, p.1 ≠ i) : ∃ M', EnvS K own' M0 B io cs M' H σ ρ := by
  have hf : ∀ p ∈ io, p.1 ∈ own' := fun p hp => by
    rcases h2 _ (E.fix p hp).1 with z | z
    · exact z
    · exact absurd z (h3 p hp)
  by_cases hi : i ∈ own
  · cases q : ρ[i]? with
    | none => exact ⟨M, E.fewer (fun j hj => (h1 j hj).1) (fun j hj => (h2 j hj).imp id fun z => by rw [z]; exact .inr q) hf⟩
    | some o =>
      cases o with
      | none => exact ⟨M, E.fewer (fun j hj => (h1 j hj).1) (fun j hj => (h2 j hj).imp id fun z => by rw [z]; exact .inl q) hf⟩
      | some d =>
        obtain ⟨ds, a, xs, g1, rfl, g2, g3, g4⟩ := E.env.own i d hi q
        have lessM : ∀ b, (M b ∧ b ≠ a) → M b := fun b z => z.1
        have nfp : ¬ Fp io a := fun ⟨p, hp, e⟩ => by
          obtain ⟨f1, f2, d', f3⟩ := E.fix p hp
          rw [e] at f2
          exact E.dis p.1 i d' (.lst ds) a f1 hi (h3 p hp) f3 q f2 g1
        refine ⟨fun b => M b ∧ b ≠ a, ⟨⟨E.env.len, fun j d n h => ?_, fun j d n h => ?_⟩, fun b z => E.mm b z.1, fun b z => ⟨E.sub b z, fun e => ?_⟩, E.mb, fun j d x hj => E.new j d x (h1 j hj).1, fun c hc b z => E.msk c hc b z.1, fun j k d e x hj hk => E.dis j k d e x (h1 j hj).1 (h1 k hk).1, E.kx, E.ck, fun p hp => ⟨hf p hp, (E.fix p hp).2⟩⟩⟩
        · by_cases z : j ∈ own
          · have e : j = i := (h2 j z).elim (fun y => absurd y n) id
            subst e
            rw [q] at h
            cases h
            exact ⟨.ref a, g1, a, xs, rfl, fun z => z.2 rfl, g3, DxAll.less lessM ds g4⟩
          · obtain ⟨v, v1, v2⟩ := E.env.val j d z h
            exact ⟨v, v1, Dx.less lessM d v2⟩
        · obtain ⟨z1, z2⟩ := h1 j n
          obtain ⟨es, b, ys, y1, y2, y3, y4, y5⟩ := E.env.own j d z1 h
          refine ⟨es, b, ys, y1, y2, ⟨y3, fun e => ?_⟩, y4, DxAll.less lessM es y5⟩
          subst e
          exact E.dis j i d _ b z1 hi z2 h q y1 g1
        · subst e
          rcases E.new i _ b hi q g1 with y | y
          · exact E.mb.no y z
          · exact nfp y
  · refine ⟨M, E.fewer (fun j hj => (h1 j hj).1) (fun j hj => (h2 j hj).imp id fun z => absurd (z ▸ hj) hi) hf⟩
theorem EnvS.io_at (E : EnvS K own M0 B io cs M H σ ρ) : IoAt K M0 H io ρ := fun p hp => by
  obtain ⟨f1, f2, d, f3⟩ := E.fix p hp
  obtain ⟨ds, a, xs, g1, rfl, g2, g3, g4⟩ := E.env.own _ d f1 f3
  rw [f2] at g1
  cases g1
  exact ⟨ds, xs, f3, g3, DxAll.less E.sub ds g4⟩
/-- a list of one's own is changed -/
theorem EnvS.chg (E : EnvS K own M0 B io cs M H σ ρ) {i : Nat} {d : D} {a : Addr} {xs ys : List V} {es : List D} (hi : i ∈ own) (hd : ρ[i]? = some (some d)) (hs : σ[i]? = some (some (.ref a))) (hl : H a = some (.lst xs)) (r : DxAll K M H es ys) : EnvS K own M0 B io cs M (L2.upd H a (.lst ys)) σ (ρ.set i (some (.lst es))) := by
  obtain ⟨ds, a', xs', g1, g0, g2, g3, g4⟩ := E.env.own i d hi hd
  rw [hs] at g1
  cases g1
  have kx : Kx K M H (L2.upd H a (.lst ys)) := Kx.upd g2 hl
  have hlt : i < ρ.length := (List.getElem?_eq_some_iff.mp hd).1
  have up : ∀ M1 : Addr → Prop, ∀ C : Hp, (M1 a ∨ C a = none) → Kx K M1 C H → Kx K M1 C (L2.upd H a (.lst ys)) := fun M1 C h k => by
    refine ⟨fun b o n e => ?_, fun b zs e => kx.t b zs (k.t b zs e)⟩
    have nb : b ≠ a := fun z => by
      subst z
      rcases h with h | h
      · exact n h
      · rw [h] at e; cases e
    rw [upd_ne nb]
    exact k.k b o n e
  have n1 := E.new i d a hi hd hs
  have n2 : ∀ c ∈ cs, c.1 a ∨ c.2 a = none := fun c hc => E.msk c hc a g2
  have back : ∀ j e, (ρ.set i (some (.lst es)))[j]? = some (some e) → ∃ e', ρ[j]? = some (some e') := fun j e h => by
    by_cases q : i = j
    · subst q; exact ⟨d, hd⟩
    · rw [List.getElem?_set_ne q] at h; exact ⟨e, h⟩
  refine ⟨⟨by rw [List.length_set]; exact E.env.len, fun j e n h => ?_, fun j e n h => ?_⟩, fun b z => ?_, E.sub, E.mb, fun j e x hj h1 h2 => ?_, E.msk, fun j k e f x hj hk n h1 h2 h3 h4 => ?_, up _ _ (n1.symm) E.kx, fun c hc => up _ _ (n2 c hc) (E.ck c hc), fun p hp => ?_⟩
  · have q : i ≠ j := fun q => n (q ▸ hi)
    rw [List.getElem?_set_ne q] at h
    obtain ⟨v, v1, v2⟩ := E.env.val j e n h
    exact ⟨v, v1, Dx.kx kx e v2⟩
  · by_cases q : i = j
    · subst q
      rw [List.getElem?_set_self hlt] at h
      cases h
      exact ⟨es, a, ys, hs, rfl, g2, upd_same, DxAll.kx kx es r⟩
    · rw [List.getElem?_set_ne q] at h
      obtain ⟨fs, b, zs, y1, y2, y3, y4, y5⟩ := E.env.own j e n h
      have nb : b ≠ a := fun z => by
        subst z
        exact E.dis i j d e b hi n q hd h hs y1
      exact ⟨fs, b, zs, y1, y2, y3, by rw [upd_ne nb]; exact y4, DxAll.kx kx fs y5⟩
  · by_cases q : b = a
    · exact ⟨ys, by rw [q, upd_same]⟩
    · rw [upd_ne q]; exact E.mm b z
  · obtain ⟨e', h1'⟩ := back j e h1
    exact E.new j e' x hj h1' h2
  · obtain ⟨e', h1'⟩ := back j e h1
    obtain ⟨f', h2'⟩ := back k f h2
    exact E.dis j k e' f' x hj hk n h1' h2' h3 h4
  · obtain ⟨f1, f2, e, f3⟩ := E.fix p hp
    refine ⟨f1, f2, ?_⟩
    by_cases q : i = p.1
    · exact ⟨_, by rw [q, List.getElem?_set_self (by rw [← q]; exact hlt)]⟩
    · exact ⟨e, by rw [List.getElem?_set_ne q]; exact f3⟩
/-- a new list of one's own -/
theorem EnvS.born (E : EnvS K own M0 B io cs M H σ ρ) {i : Nat} {own' : List Nat} {a : Addr} {xs : List V} {es : List D} (e : Ex H H') (n : H a = none) (ha : H' a = some (.lst xs)) (r : DxAll K (M1 M a) H' es xs) (hi : i ∈ own') (h1 : ∀ j ∈ own', j ∈ own ∨ j = i) (h2 : ∀ j ∈ own, j ∈ own') (h3 : ∀ p ∈ io, p.1 ≠ i) : EnvS K own' M0 B io cs (M1 M a) H' (σ.set i (some (.ref a))) (ρ.set i (some (.lst es))) := by
  have E1 := (E.env.more n).ex e
  have inv : ∀ (C : Hp) (m : Addr → Prop), Kx K m C H → m a ∨ C a = none := fun C m k => by
    cases q : C a with
    | none => exact .inr rfl
    | some o =>
      by_cases z : m a
      · exact .inl z
      · rw [k.k a o z q] at n; cases n
  have old : ∀ j b, j ∈ own → (∃ d, ρ[j]? = some (some d)) → σ[j]? = some (some (.ref b)) → b ≠ a := fun j b hj ⟨d, hd⟩ hs z => by
    obtain ⟨ds, b', ys, y1, y2, y3, y4, y5⟩ := E.env.own j d hj hd
    rw [hs] at y1; cases y1
    rw [z, n] at y4; cases y4
  have hfa : ¬ Fp io a := fun ⟨p, hp, z⟩ => by
    obtain ⟨f1, f2, f3⟩ := E.fix p hp
    exact old _ _ f1 f3 f2 z
  refine ⟨⟨by rw [List.length_set, List.length_set]; exact E.env.len, fun j d m h => ?_, fun j d m h => ?_⟩, Mk.more E.mm e ha, fun b z => .inl (E.sub b z), E.mb, fun j d x hj g1 g2 => ?_, fun c hc b z => z.elim (E.msk c hc b) fun z => by rw [z]; exact inv _ _ (E.ck c hc), fun j k d f x hj hk m g1 g2 g3 g4 => ?_, E.kx.trans (Kx.ex e), fun c hc => (E.ck c hc).trans (Kx.ex e), fun p hp => ?_⟩
  · have q : i ≠ j := fun q => m (q ▸ hi)
    rw [List.getElem?_set_ne q] at h
    rw [List.getElem?_set_ne q]
    exact E1.val j d (fun z => m (h2 j z)) h
  · by_cases q : i = j
    · subst q
      have hlt : i < ρ.length := by
        by_cases z : i < ρ.length
        · exact z
        · rw [List.getElem?_eq_none (by rw [List.length_set]; omega)] at h; cases h
      rw [List.getElem?_set_self hlt] at h
      cases h
      exact ⟨es, a, xs, List.getElem?_set_self (by rw [E.env.len]; exact hlt), rfl, .inr rfl, ha, r⟩
    · rw [List.getElem?_set_ne q] at h
      rw [List.getElem?_set_ne q]
      exact E1.own j d ((h1 j m).elim id fun z => absurd z.symm q) h
  · by_cases q : i = j
    · subst q
      by_cases z : i < σ.length
      · rw [List.getElem?_set_self z] at g2
        cases g2
        exact (inv B _ E.kx).elim (fun z => absurd z hfa) .inl
      · rw [List.getElem?_eq_none (by rw [List.length_set]; omega)] at g2; cases g2
    · rw [List.getElem?_set_ne q] at g1 g2
      exact E.new j d x ((h1 j hj).elim id fun z => absurd z.symm q) g1 g2
  · by_cases q : i = j
    · subst q
      have q2 : i ≠ k := m
      rw [List.getElem?_set_ne q2] at g2 g4
      by_cases z : i < σ.length
      · rw [List.getElem?_set_self z] at g3
        cases g3
        exact old k a ((h1 k hk).elim id fun z => absurd z.symm q2) ⟨f, g2⟩ g4 rfl
      · rw [List.getElem?_eq_none (by rw [List.length_set]; omega)] at g3; cases g3
    · rw [List.getElem?_set_ne q] at g1 g3
      by_cases q2 : i = k
      · subst q2
        by_cases z : i < σ.length
        · rw [List.getElem?_set_self z] at g4
          cases g4
          exact old j a ((h1 j hj).elim id fun z => absurd z.symm q) ⟨d, g1⟩ g3 rfl
        · rw [List.getElem?_eq_none (by rw [List.length_set]; omega)] at g4; cases g4
      · rw [List.getElem?_set_ne q2] at g2 g4
        exact E.dis j k d f x ((h1 j hj).elim id fun z => absurd z.symm q) ((h1 k hk).elim id fun z => absurd z.symm q2) m g1 g2 g3 g4
  · obtain ⟨f1, f2, f3⟩ := E.fix p hp
    have q : i ≠ p.1 := fun q => h3 p hp q.symm
    rw [List.getElem?_set_ne q, List.getElem?_set_ne q]
    exact ⟨h2 _ f1, f2, f3⟩
end
end NV

set_option Elab.async false
set_option linter.all false
set_option maxRecDepth 100000
set_option maxHeartbeats 4000000
/-! # statements, judged -/
namespace NV
open PySem PySem.Spec PyProof.Rows L2
open Evl (Ex)
section
variable {K : PySem.W.Frag} {own : List Nat} {M0 : Addr → Prop} {B : Hp} {io : List (Nat × Addr)} {cs : Chk} {M : Addr → Prop} {H H' : Hp} {σ σ' : L2.St} {ρ ρ' : Env}
theorem EnvS.px {mg : Str → Option Value} {Eo : XK} (E : EnvS K own M0 B io cs M H σ ρ) {n : Str} (h : PostY K mg B io Eo n) : PostX mg H Eo n := fun cls H' e q => h cls H' (E.kx.trans (Kx.ex e)) q
end
/-- a new list is stored -/
def fSetF (i : Nat) (fe : Env → W D) : Env → W Out := fSet i (fList fe)
section
variable {K : PySem.W.Frag} {mg : Str → Option Value} {Eo : XK} {rm : Md} {ioS own oN oB oC : List Nat}
theorem sd_next : SD K mg Eo rm ioS own own oB oC tNext fNext := fun M0 B io cs M H σ ρ De hio E h => h M H σ E
theorem sd_break : SD K mg Eo rm ioS own oN own oC tBreak fBreak := fun M0 B io cs M H σ ρ De hio E h => h M H σ E
theorem sd_cont : SD K mg Eo rm ioS own oN oB own tCont fCont := fun M0 B io cs M H σ ρ De hio E h => h M H σ E
theorem sd_seq {o1 : List Nat} {t u : TS} {f g : Env → W Out} (ht : SD K mg Eo rm ioS own o1 oB oC t f) (hu : SD K mg Eo rm ioS o1 oN oB oC u g) : SD K mg Eo rm ioS own oN oB oC (tSeq t u) (fSeq f g) := fun M0 B io cs M H σ ρ De hio E h =>
  ht M0 B io cs M H σ ρ { De with nx := u De } hio E ((f ρ).mono (fun o p => by
    cases o with
    | nx ρ' => exact fun M1 H1 σ1 E1 => hu M0 B io cs M1 H1 σ1 ρ' De hio E1 p
    | rt d ρ' => exact p
    | bk ρ' => exact p
    | ct ρ' => exact p) (fun _ z => z) h)
theorem PostR.mk {K : PySem.W.Frag} {own : List Nat} {M0 : Addr → Prop} {B : Hp} {io : List (Nat × Addr)} {cs : Chk} {M : Addr → Prop} {H : Hp} {σ : L2.St} {ρ : Env} {d : D} {Q : VK} (E : EnvS K own M0 B io cs M H σ ρ) (hrm : rm ≠ .f) (h : PostR K M0 B io Q rm d ρ) : PostV K M H Q d := fun v H' e r => by
  have E' := E.ex e
  cases rm with
  | f => exact absurd rfl hrm
  | v => exact h v H' E'.kx (Dx.less E.sub d r) E'.io_at
  | s => exact h v H' E'.kx (Dx.less E.sub d r) E'.io_at
theorem sd_ret {te : TE} {fe : Env → W D} (he : PD K mg Eo own .v te fe) : SD K mg Eo .v ioS own oN oB oC (tRet te) (fRet fe) := fun M0 B io cs M H σ ρ De hio E h =>
  he M ρ σ H De.rt E.mm E.env ((fe ρ).mono (fun d p => PostR.mk (rm := .v) E (fun z => nomatch z) p) (fun n z => E.px z) h)
theorem sd_retf {te : TE} {fe : Env → W D} (he : PD K mg Eo own .f te fe) : SD K mg Eo .f ioS own oN oB oC (tRet te) (fRet fe) := fun M0 B io cs M H σ ρ De hio E h =>
  he M ρ σ H De.rt E.mm E.env ((fe ρ).mono (fun d p => by
    obtain ⟨ds, rfl, k⟩ := p
    refine ⟨ds, rfl, fun a xs H' e n h1 h2 => k a xs H' (E.ex e).kx ?_ h1 (DxAll.less (fun b z => z.imp (E.sub b) id) ds h2) (E.ex e).io_at⟩
    cases q : B a with
    | none => rfl
    | some o =>
      by_cases z : Fp io a
      · obtain ⟨p, hp, rfl⟩ := z
        obtain ⟨ds', xs', _, y, _⟩ := E.io_at p hp
        rw [n] at y; cases y
      · rw [E.kx.k a o z q] at n; cases n) (fun n z => E.px z) h)
/-- return of a list of one's own -/
theorem sd_reto {i : Nat} (hi : i ∈ own) (hn : i ∉ ioS) : SD K mg Eo .f ioS own oN oB oC (tRet (mV i)) (fRet (fV i)) := fun M0 B io cs M H σ ρ De hio E h => by
  have h' : (fV i ρ).run (fun d => PostR K M0 B io De.rt .f d ρ) (PostY K mg B io Eo) := h
  unfold fV at h'
  split at h'
  · rename_i d e
    obtain ⟨ds, a, xs, h1, rfl, h2, h3, h4⟩ := E.env.own i d hi e
    obtain ⟨ds', q, k⟩ := (show PostR K M0 B io De.rt .f (.lst ds) ρ from h')
    cases q
    show match σ[i]? with | some (some v) => De.rt v H | _ => False
    rw [h1]
    refine k a xs H E.kx ?_ h3 (DxAll.less (fun b z => z.elim (E.sub b) fun z => by rw [z]; exact h2) ds h4) E.io_at
    rcases E.new i _ a hi e h1 with z | ⟨p, hp, rfl⟩
    · exact z
    · obtain ⟨f1, f2, d', f3⟩ := E.fix p hp
      have q : p.1 ≠ i := fun q => hn (by rw [← hio, ← q]; exact List.mem_map.mpr ⟨p, hp, rfl⟩)
      exact (E.dis p.1 i d' _ _ f1 hi q f3 e f2 h1).elim
  · exact False.elim h'
theorem sd_drop {m : Md} (hm : m ≠ .f) {te : TE} {fe : Env → W D} (he : PD K mg Eo own m te fe) : SD K mg Eo rm ioS own own oB oC (tDrop te) (fDrop fe) := fun M0 B io cs M H σ ρ De hio E h =>
  he M ρ σ H _ E.mm E.env ((fe ρ).mono (fun d p => by
    cases m with
    | f => exact absurd rfl hm
    | v => exact fun v H' e r => p M H' σ (E.ex e)
    | s => exact fun v H' e r => p M H' σ (E.ex e)) (fun n z => E.px z) h)
theorem hio_ne {io : List (Nat × Addr)} {i : Nat} (hio : io.map (·.1) = ioS) (h : i ∉ ioS) : ∀ p ∈ io, p.1 ≠ i := fun p hp e => h (by rw [← hio, ← e]; exact List.mem_map.mpr ⟨p, hp, rfl⟩)
theorem hio_in {io : List (Nat × Addr)} {o : List Nat} (hio : io.map (·.1) = ioS) (h : ∀ i ∈ ioS, i ∈ o) : ∀ p ∈ io, p.1 ∈ o := fun p hp => h _ (by rw [← hio]; exact List.mem_map.mpr ⟨p, hp, rfl⟩)
/-- name = a value -/
theorem sd_set {i : Nat} {te : TE} {fe : Env → W D} (he : PD K mg Eo own .v te fe) (h1 : oN.all (fun j => decide (j ∈ own) && decide (j ≠ i)) = true) (h2 : own.all (fun j => decide (j ∈ oN) || decide (j = i)) = true) (h3 : ioS.all (fun j => decide (j ∈ oN)) = true) : SD K mg Eo rm ioS own oN oB oC (tAsg te (gName i)) (fSet i fe) := fun M0 B io cs M H σ ρ De hio E h => by
  have h1' : ∀ j ∈ oN, j ∈ own ∧ j ≠ i := fun j hj => by
    have := List.all_eq_true.mp h1 j hj
    rw [Bool.and_eq_true] at this
    exact ⟨of_decide_eq_true this.1, of_decide_eq_true this.2⟩
  have h2' : ∀ j ∈ own, j ∈ oN ∨ j = i := fun j hj => by
    have := List.all_eq_true.mp h2 j hj
    rw [Bool.or_eq_true] at this
    exact this.imp of_decide_eq_true of_decide_eq_true
  have h3' : ∀ p ∈ io, p.1 ∈ oN := hio_in hio fun j hj => of_decide_eq_true (List.all_eq_true.mp h3 j hj)
  refine he M ρ σ H _ E.mm E.env ((fe ρ).mono (fun d p v H' e r => ?_) (fun n z => E.px z) h)
  have E' := E.ex e
  refine p M H' _ (E'.upd (vs := [i]) ?_ (fun j hj => ⟨(h1' j hj).1, by simpa using (h1' j hj).2⟩) h3' (fun j hj => List.getElem?_set_ne fun (q : i = j) => hj (by simp [q])) (fun j hj => List.getElem?_set_ne fun (q : i = j) => hj (by simp [q])))
  refine ⟨by rw [List.length_set, List.length_set]; exact E'.env.len, fun j d' n y => ?_, fun j d' n y => ?_⟩
  · by_cases q : i = j
    · subst q
      have hl : i < ρ.length := by
        by_cases z : i < ρ.length
        · exact z
        · rw [List.getElem?_eq_none (by rw [List.length_set]; omega)] at y; cases y
      rw [List.getElem?_set_self hl] at y
      cases y
      exact ⟨v, List.getElem?_set_self (by rw [E'.env.len]; exact hl), r⟩
    · rw [List.getElem?_set_ne q] at y
      rw [List.getElem?_set_ne q]
      exact E'.env.val j d' (fun z => (h2' j z).elim n fun z => q z.symm) y
  · obtain ⟨g1, g2⟩ := h1' j n
    rw [List.getElem?_set_ne g2.symm] at y
    rw [List.getElem?_set_ne g2.symm]
    exact E'.env.own j d' g1 y
/-- name = a new list, one's own -/
theorem sd_setf {i : Nat} {te : TE} {fe : Env → W D} (he : PD K mg Eo own .f te fe) (h0 : decide (i ∈ oN) = true) (h1 : oN.all (fun j => decide (j ∈ own) || decide (j = i)) = true) (h2 : own.all (fun j => decide (j ∈ oN)) = true) (h3 : ioS.all (fun j => decide (j ≠ i)) = true) : SD K mg Eo rm ioS own oN oB oC (tAsg te (gName i)) (fSetF i fe) := fun M0 B io cs M H σ ρ De hio E h => by
  refine he M ρ σ H _ E.mm E.env ((fe ρ).mono (fun d p => ?_) (fun n z => E.px z) h)
  cases d with
  | lst es =>
    refine ⟨es, rfl, fun a xs H' e n g1 g2 => p (M1 M a) H' _ (E.born e n g1 g2 (of_decide_eq_true h0) (fun j hj => ?_) (fun j hj => of_decide_eq_true (List.all_eq_true.mp h2 j hj)) (hio_ne hio fun z => absurd rfl (of_decide_eq_true (List.all_eq_true.mp h3 i z))))⟩
    have := List.all_eq_true.mp h1 j hj
    rw [Bool.or_eq_true] at this
    exact this.imp of_decide_eq_true of_decide_eq_true
  | _ => exact False.elim p
/-- lists let go ahead of a statement -/
theorem sd_seal (i : Nat) {o1 : List Nat} {t : TS} {f : Env → W Out} (h1 : o1.all (fun j => decide (j ∈ own) && decide (j ≠ i)) = true) (h2 : own.all (fun j => decide (j ∈ o1) || decide (j = i)) = true) (h3 : ioS.all (fun j => decide (j ≠ i)) = true) (ht : SD K mg Eo rm ioS o1 oN oB oC t f) : SD K mg Eo rm ioS own oN oB oC t f := fun M0 B io cs M H σ ρ De hio E h => by
  obtain ⟨M', E'⟩ := E.seal i o1 (fun j hj => by
    have := List.all_eq_true.mp h1 j hj
    rw [Bool.and_eq_true] at this
    exact ⟨of_decide_eq_true this.1, of_decide_eq_true this.2⟩) (fun j hj => by
    have := List.all_eq_true.mp h2 j hj
    rw [Bool.or_eq_true] at this
    exact this.imp of_decide_eq_true of_decide_eq_true) (hio_ne hio fun z => absurd rfl (of_decide_eq_true (List.all_eq_true.mp h3 i z)))
  exact ht M0 B io cs M' H σ ρ De hio E' h
/-- .. behind it -/
theorem sd_sealN (i : Nat) {o1 : List Nat} {t : TS} {f : Env → W Out} (ht : SD K mg Eo rm ioS own o1 oB oC t f) (h1 : oN.all (fun j => decide (j ∈ o1) && decide (j ≠ i)) = true) (h2 : o1.all (fun j => decide (j ∈ oN) || decide (j = i)) = true) (h3 : ioS.all (fun j => decide (j ≠ i)) = true) : SD K mg Eo rm ioS own oN oB oC t f := fun M0 B io cs M H σ ρ De hio E h => by
  refine ht M0 B io cs M H σ ρ De hio E ((f ρ).mono (fun o p => ?_) (fun _ z => z) h)
  cases o with
  | nx ρ' =>
    intro M1 H1 σ1 E1
    obtain ⟨M', E'⟩ := E1.seal i oN (fun j hj => by
      have := List.all_eq_true.mp h1 j hj
      rw [Bool.and_eq_true] at this
      exact ⟨of_decide_eq_true this.1, of_decide_eq_true this.2⟩) (fun j hj => by
      have := List.all_eq_true.mp h2 j hj
      rw [Bool.or_eq_true] at this
      exact this.imp of_decide_eq_true of_decide_eq_true) (hio_ne hio fun z => absurd rfl (of_decide_eq_true (List.all_eq_true.mp h3 i z)))
    exact p M' H1 σ1 E'
  | rt d ρ' => exact p
  | bk ρ' => exact p
  | ct ρ' => exact p
/-- a slot that is not set yet may count as one's own -/
theorem sd_if {tt : TT} {ta tb : TS} {ft : Env → W Bool} {fa fb : Env → W Out} (ht : PDT K mg Eo own tt ft) (ha : SD K mg Eo rm ioS own oN oB oC ta fa) (hb : SD K mg Eo rm ioS own oN oB oC tb fb) : SD K mg Eo rm ioS own oN oB oC (tIfS tt ta tb) (fIfS ft fa fb) := fun M0 B io cs M H σ ρ De hio E h =>
  ht M ρ σ H _ E.mm E.env ((ft ρ).mono (fun b p H' e => by
    cases b with
    | true => exact ha M0 B io cs M H' σ ρ De hio (E.ex e) p
    | false => exact hb M0 B io cs M H' σ ρ De hio (E.ex e) p) (fun n z => E.px z) h)
theorem sd_raise {x : Str} {t : TS} (h : ∀ D σ H, (∀ cls, mg x = some cls → Eo cls none H) → t D σ H) : SD K mg Eo rm ioS own oN oB oC t (fRaise x) := fun M0 B io cs M H σ ρ De hio E r => h De σ H fun cls q => r cls H E.kx q
theorem sd_asg {te : TE} {g : TG} {vs : List Nat} {fe : Env → W D} {fg : D → Env → W Env} (he : PD K mg Eo own .v te fe) (hg : PGD K own vs g fg) (h1 : own.all (fun j => decide (j ∉ vs)) = true) : SD K mg Eo rm ioS own own oB oC (tAsg te g) (fAsg fe fg) := fun M0 B io cs M H σ ρ De hio E h =>
  he M ρ σ H _ E.mm E.env ((fe ρ).mono (fun d p v H' e r => hg M ρ σ H' d v _ _ (E.ex e).env r ((fg d ρ).mono (fun ρ' p σ' E' a b c => p M H' σ' ((E.ex e).upd (vs := vs) E' (fun j hj => ⟨hj, of_decide_eq_true (List.all_eq_true.mp h1 j hj)⟩) (fun q hq => (E.fix q hq).1) a b)) (fun _ z => z) p)) (fun n z => E.px z) h)
theorem fV_run {i : Nat} {ρ : Env} {q : D → Prop} {e : Str → Prop} (h : (fV i ρ).run q e) : ∃ d, ρ[i]? = some (some d) ∧ q d := by
  unfold fV at h
  split at h
  · rename_i d e; exact ⟨d, e, h⟩
  · exact False.elim h
theorem sd_aug {i : Nat} {te : TE} {fe : Env → W D} {f : Int → Int → Int} (hi : decide (i ∈ own) = false) (he : PD K mg Eo own .v te fe) : SD K mg Eo rm ioS own own oB oC (tAug i te (ipI f)) (fAug i fe (dIp f)) := fun M0 B io cs M H σ ρ De hio E h => by
  have hi' : i ∉ own := of_decide_eq_false hi
  obtain ⟨d, e, h⟩ := fV_run h
  obtain ⟨v, h1, h2⟩ := E.env.val i d hi' e
  refine ⟨v, h1, he M ρ σ H _ E.mm E.env ((fe ρ).mono (fun y p w H' ex r => ?_) (fun n z => E.px z) h)⟩
  cases d <;> cases y <;> first | (exact False.elim p) | skip
  cases h2; cases r
  refine ⟨_, _, rfl, rfl, p M H' _ ((E.ex ex).upd (vs := [i]) ((E.ex ex).env.set hi' rfl) (fun j hj => ⟨hj, fun z => hi' (by simp at z; exact z ▸ hj)⟩) (fun q hq => (E.fix q hq).1) (fun j hj => List.getElem?_set_ne fun (q : i = j) => hj (by simp [q])) (fun j hj => List.getElem?_set_ne fun (q : i = j) => hj (by simp [q])))⟩
theorem sd_par {i j : Nat} {ta : TA} {fa : Env → W (List D)} (hi : decide (i ∈ own) = false) (hj : decide (j ∈ own) = false) (ha : PDA K mg Eo own ta fa) : SD K mg Eo rm ioS own own oB oC (tPar i j ta) (fPar i j fa) := fun M0 B io cs M H σ ρ De hio E h => by
  have hi' : i ∉ own := of_decide_eq_false hi
  have hj' : j ∉ own := of_decide_eq_false hj
  refine ha M ρ σ H _ E.mm E.env ((fa ρ).mono (fun ds p vs H' ex r => ?_) (fun n z => E.px z) h)
  match ds, p, r with
  | [d, e], p, ⟨x, _, q1, r1, y, _, q2, r2, q3⟩ =>
    cases q3; cases q2; cases q1
    refine ⟨x, y, rfl, p M H' _ ((E.ex ex).upd (vs := [i, j]) (((E.ex ex).env.set hi' r1).set hj' r2) (fun k hk => ⟨hk, fun z => ?_⟩) (fun q hq => (E.fix q hq).1) (fun k hk => ?_) (fun k hk => ?_))⟩
    · simp at z; rcases z with z | z
      · exact hi' (z ▸ hk)
      · exact hj' (z ▸ hk)
    · simp at hk
      rw [List.getElem?_set_ne (fun q => hk.2 q.symm), List.getElem?_set_ne (fun q => hk.1 q.symm)]
    · simp at hk
      rw [List.getElem?_set_ne (fun q => hk.2 q.symm), List.getElem?_set_ne (fun q => hk.1 q.symm)]
theorem own_at {K : PySem.W.Frag} {own : List Nat} {M0 : Addr → Prop} {B : Hp} {io : List (Nat × Addr)} {cs : Chk} {M : Addr → Prop} {H : Hp} {σ : L2.St} {ρ : Env} (E : EnvS K own M0 B io cs M H σ ρ) {i : Nat} {d : D} {Q : VK} (hi : i ∈ own) (hd : ρ[i]? = some (some d)) :
    ∃ ds a xs, σ[i]? = some (some (.ref a)) ∧ d = .lst ds ∧ H a = some (.lst xs) ∧ DxAll K M H ds xs ∧ (∀ Q : VK, Q (.ref a) H → mV i σ H Q) := by
  obtain ⟨ds, a, xs, h1, h2, h3, h4, h5⟩ := E.env.own i d hi hd
  refine ⟨ds, a, xs, h1, h2, h4, h5, fun Q q => ?_⟩
  show match σ[i]? with | some (some v) => Q v H | _ => False
  rw [h1]
  exact q
/-- xs.append(e) -/
theorem sd_app {i : Nat} {te : TE} {fe : Env → W D} (hi : decide (i ∈ own) = true) (he : PD K mg Eo own .v te fe) : SD K mg Eo rm ioS own own oB oC (tDrop (tBM K "list" rAppend (mV i) (tCons te tNil))) (fApp i fe) := fun M0 B io cs M H σ ρ De hio E h => by
  obtain ⟨d, hd, h⟩ := fV_run h
  obtain ⟨ds, a, xs, h1, rfl, h4, h5, look⟩ := own_at (Q := fun _ _ => True) E (of_decide_eq_true hi) hd
  refine (show mV i σ H (fun x H1 => tyV K "list" x H1 ∧ tCons te tNil σ H1 fun xs H2 => rAppend x xs H2 fun _ H3 => De.nx σ H3) from ?_)
  refine look _ ?_
  refine ⟨.inl ⟨rfl, xs, .of h4⟩, he M ρ σ H _ E.mm E.env ((fe ρ).mono (fun e p v H' ex r => ?_) (fun n z => E.px z) h)⟩
  have p' : ds.length < 16777216 ∧ PostO K rm M0 B io cs own oB oC De (.nx (ρ.set i (some (.lst (ds ++ [e]))))) := p
  refine ⟨a, xs, v, rfl, rfl, ex _ _ h4, by rw [DxAll.len h5]; exact p'.1, ?_⟩
  exact p'.2 M _ σ ((E.ex ex).chg (of_decide_eq_true hi) hd h1 (ex _ _ h4) (DxAll.app (h5.ex ex) ⟨v, [], rfl, r, rfl⟩))
/-- xs.extend(e) -/
theorem sd_ext {i : Nat} {te : TE} {fe : Env → W D} (hi : decide (i ∈ own) = true) (he : PD K mg Eo own .s te fe) : SD K mg Eo rm ioS own own oB oC (tDrop (tBM K "list" rExtend (mV i) (tCons te tNil))) (fExt i fe) := fun M0 B io cs M H σ ρ De hio E h => by
  obtain ⟨d, hd, h⟩ := fV_run h
  obtain ⟨ds, a, xs, h1, rfl, h4, h5, look⟩ := own_at (Q := fun _ _ => True) E (of_decide_eq_true hi) hd
  refine (show mV i σ H (fun x H1 => tyV K "list" x H1 ∧ tCons te tNil σ H1 fun xs H2 => rExtend x xs H2 fun _ H3 => De.nx σ H3) from ?_)
  refine look _ ?_
  refine ⟨.inl ⟨rfl, xs, .of h4⟩, he M ρ σ H _ E.mm E.env ((fe ρ).mono (fun e p v H' ex r => ?_) (fun n z => E.px z) h)⟩
  cases e with
  | lst es =>
    have p' : ds.length + es.length ≤ 16777216 ∧ PostO K rm M0 B io cs own oB oC De (.nx (ρ.set i (some (.lst (ds ++ es))))) := p
    obtain ⟨b, ys, rfl, g1, g2⟩ := r.lst
    refine ⟨a, b, xs, ys, rfl, rfl, ex _ _ h4, g1, by rw [DxAll.len h5, DxAll.len g2]; exact p'.1, ?_⟩
    exact p'.2 M _ σ ((E.ex ex).chg (of_decide_eq_true hi) hd h1 (ex _ _ h4) (DxAll.app (h5.ex ex) g2))
  | _ => exact False.elim p
/-- xs[k] = e -/
theorem sd_sub {i : Nat} {te tk : TE} {fe fk : Env → W D} (hi : decide (i ∈ own) = true) (he : PD K mg Eo own .v te fe) (hk : PD K mg Eo own .v tk fk) : SD K mg Eo rm ioS own own oB oC (tAsg te (gSub (mV i) tk rSetL)) (fSub i fk fe) := fun M0 B io cs M H σ ρ De hio E h => by
  refine he M ρ σ H _ E.mm E.env ((fe ρ).mono (fun e p v H1 e1 r => ?_) (fun n z => E.px z) h)
  have E1 := E.ex e1
  obtain ⟨d, hd, p⟩ := fV_run p
  obtain ⟨ds, a, xs, h1, rfl, h4, h5, look⟩ := own_at (Q := fun _ _ => True) E1 (of_decide_eq_true hi) hd
  refine look _ ?_
  refine hk M ρ σ H1 _ E1.mm E1.env ((fk ρ).mono (fun k p w H2 e2 rk => ?_) (fun n z => E1.px z) p)
  cases k <;> first | (exact False.elim p) | skip
  rename_i k
  cases rk
  cases q : ixN ds.length k with
  | none => dsimp only [dSet] at p; rw [q] at p; exact False.elim p
  | some j =>
    dsimp only [dSet] at p; rw [q] at p
    have p' : PostO K rm M0 B io cs own oB oC De (.nx (ρ.set i (some (.lst (ds.set j e))))) := p
    refine ⟨a, xs, k, j, rfl, rfl, e2 _ _ h4, by rw [DxAll.len h5]; exact q, ?_⟩
    exact p' M _ σ ((E1.ex e2).chg (of_decide_eq_true hi) hd h1 (e2 _ _ h4) (DxAll.set j (h5.ex e2) (r.ex e2)))
theorem pop_last {α : Type} (l : List α) : l[l.length - 1]? = l.getLast? := (List.getLast?_eq_getElem? ..).symm
/-- x = xs.pop() -/
theorem sd_pop {i j : Nat} (hi : decide (i ∈ own) = false) (hj : decide (j ∈ own) = true) : SD K mg Eo rm ioS own own oB oC (tAsg (tBM0 K "list" rPop (mV j)) (gName i)) (fPop i j) := fun M0 B io cs M H σ ρ De hio E h => by
  have hi' : i ∉ own := of_decide_eq_false hi
  have hj' : j ∈ own := of_decide_eq_true hj
  obtain ⟨d, hd, h⟩ := fV_run h
  obtain ⟨ds, a, xs, h1, rfl, h4, h5, look⟩ := own_at (Q := fun _ _ => True) E hj' hd
  refine (show mV j σ H (fun x H1 => tyV K "list" x H1 ∧ rPop x [] H1 fun y H2 => gName i y σ H2 De.nx) from ?_)
  refine look _ ?_
  refine ⟨.inl ⟨rfl, xs, .of h4⟩, ?_⟩
  cases q : ds[ds.length - 1]? with
  | none => dsimp only [dPop] at h; rw [q] at h; exact False.elim h
  | some e =>
    dsimp only [dPop] at h; rw [q] at h
    have h' : PostO K rm M0 B io cs own oB oC De (.nx ((ρ.set j (some (.lst ds.dropLast))).set i (some e))) := h
    obtain ⟨v, hv, rv⟩ := DxAll.get h5 q
    rw [← DxAll.len h5] at hv
    refine ⟨a, xs, v, rfl, rfl, h4, hv, ?_⟩
    have Ec := E.chg hj' hd h1 h4 (DxAll.dropLast h5)
    obtain ⟨_, _, _, m1, _, m2, _, _⟩ := E.env.own j _ hj' hd
    rw [h1] at m1; cases m1
    exact h' M _ _ (Ec.upd (vs := [i]) (Ec.env.set hi' (Dx.kx (Kx.upd m2 h4) e rv)) (fun k hk => ⟨hk, fun z => hi' (by simp at z; exact z ▸ hk)⟩) (fun q hq => (E.fix q hq).1) (fun k hk => List.getElem?_set_ne fun (q : i = k) => hk (by simp [q])) (fun k hk => List.getElem?_set_ne fun (q : i = k) => hk (by simp [q])))
theorem sd_pop0 {j : Nat} (hj : decide (j ∈ own) = true) : SD K mg Eo rm ioS own own oB oC (tDrop (tBM0 K "list" rPop (mV j))) (fPop0 j) := fun M0 B io cs M H σ ρ De hio E h => by
  have hj' : j ∈ own := of_decide_eq_true hj
  obtain ⟨d, hd, h⟩ := fV_run h
  obtain ⟨ds, a, xs, h1, rfl, h4, h5, look⟩ := own_at (Q := fun _ _ => True) E hj' hd
  refine (show mV j σ H (fun x H1 => tyV K "list" x H1 ∧ rPop x [] H1 fun _ H2 => De.nx σ H2) from ?_)
  refine look _ ?_
  refine ⟨.inl ⟨rfl, xs, .of h4⟩, ?_⟩
  cases q : ds[ds.length - 1]? with
  | none => dsimp only [dPop] at h; rw [q] at h; exact False.elim h
  | some e =>
    dsimp only [dPop] at h; rw [q] at h
    have h' : PostO K rm M0 B io cs own oB oC De (.nx (ρ.set j (some (.lst ds.dropLast)))) := h
    obtain ⟨v, hv, rv⟩ := DxAll.get h5 q
    rw [← DxAll.len h5] at hv
    refine ⟨a, xs, v, rfl, rfl, h4, hv, ?_⟩
    exact h' M _ _ (E.chg hj' hd h1 h4 (DxAll.dropLast h5))
/-! ### loops -/
theorem EnvS.push {K : PySem.W.Frag} {own : List Nat} {M0 : Addr → Prop} {B : Hp} {io : List (Nat × Addr)} {cs : Chk} {M : Addr → Prop} {H : Hp} {σ : L2.St} {ρ : Env} (E : EnvS K own M0 B io cs M H σ ρ) : EnvS K own M0 B io ((M, H) :: cs) M H σ ρ := by
  refine ⟨E.env, E.mm, E.sub, E.mb, E.new, fun c hc => ?_, E.dis, E.kx, fun c hc => ?_, E.fix⟩
  · rcases List.mem_cons.mp hc with rfl | hc
    · exact fun b z => .inl z
    · exact E.msk c hc
  · rcases List.mem_cons.mp hc with rfl | hc
    · exact Kx.refl
    · exact E.ck c hc
theorem EnvS.pull {K : PySem.W.Frag} {own : List Nat} {M0 : Addr → Prop} {B : Hp} {io : List (Nat × Addr)} {c : (Addr → Prop) × Hp} {cs : Chk} {M : Addr → Prop} {H : Hp} {σ : L2.St} {ρ : Env} (E : EnvS K own M0 B io (c :: cs) M H σ ρ) : EnvS K own M0 B io cs M H σ ρ :=
  ⟨E.env, E.mm, E.sub, E.mb, E.new, fun c hc => E.msk c (List.mem_cons_of_mem _ hc), E.dis, E.kx, fun c hc => E.ck c (List.mem_cons_of_mem _ hc), E.fix⟩
/-- for t in it: .. -/
theorem sd_for {vs : List Nat} {wi : TI} {g : TG} {tb : TS} {fi : Env → W (List D)} {fg : D → Env → W Env} {fb : Env → W Out} (hi : PDI K mg Eo own true wi fi) (hg : PGD K own vs g fg) (h1 : own.all (fun j => decide (j ∉ vs)) = true) (hb : SD K mg Eo rm ioS own own own own tb fb) : SD K mg Eo rm ioS own own oB oC (tFor wi g tb) (fFor fi fg fb) := fun M0 B io cs M H σ ρ De hio E h => by
  refine hi M ρ σ H _ E.mm E.env ((fi ρ).mono (fun ds p J H1 e1 srv => ?_) (fun n z => E.px z) h)
  have E1 := (E.ex e1).push
  refine ⟨fun i n σ2 H2 => ∃ M2 ρ2, i + n = ds.length ∧ EnvS K own M0 B io ((M, H1) :: cs) M2 H2 σ2 ρ2 ∧ (forGo fg fb (ds.drop i) ρ2).run (PostO K rm M0 B io cs own oB oC De) (PostY K mg B io Eo), ⟨ds.length, M, ρ, Nat.zero_add _, E1, by rw [List.drop_zero]; exact p⟩, ?_⟩
  rintro i n σ2 H2 ⟨M2, ρ2, hn, E2, run⟩
  obtain ⟨sgo, sstop⟩ := srv.kx rfl M2 (E2.msk _ List.mem_cons_self) H2 (E2.ck _ List.mem_cons_self)
  by_cases hlt : i < ds.length
  · have hd : ds[i]? = some ds[i] := List.getElem?_eq_getElem hlt
    generalize ds[i] = d at hd
    obtain ⟨go, yld⟩ := sgo i d hd
    refine .inr ⟨go, fun σ3 H3 => ∃ M3 ρ3, (i + 1) + (n - 1) = ds.length ∧ EnvS K own M0 B io ((M, H1) :: cs) M3 H3 σ3 ρ3 ∧ (forGo fg fb (ds.drop (i + 1)) ρ3).run (PostO K rm M0 B io cs own oB oC De) (PostY K mg B io Eo), fun σ3 H3 z => ⟨n - 1, by omega, z⟩, ?_⟩
    intro x H3 hy
    obtain ⟨ex3, rx⟩ := yld x H3 hy
    rw [show ds.drop i = d :: ds.drop (i + 1) from drop_cons hd] at run
    have E3 := E2.ex ex3
    refine hg M2 ρ2 σ2 H3 d x _ _ E3.env rx ((fg d ρ2).mono (fun ρ3 p σ3 E4 a b c => ?_) (fun _ z => z) run)
    have E5 : EnvS K own M0 B io ((M, H1) :: cs) M2 H3 σ3 ρ3 := E3.upd (vs := vs) E4 (fun j hj => ⟨hj, of_decide_eq_true (List.all_eq_true.mp h1 j hj)⟩) (fun q hq => (E3.fix q hq).1) a b
    refine hb M0 B io ((M, H1) :: cs) M2 H3 σ3 ρ3 _ hio E5 ((fb ρ3).mono (fun o p => ?_) (fun _ z => z) p)
    cases o with
    | nx ρ4 => exact fun M4 H4 σ4 E6 => ⟨M4, ρ4, by omega, E6, p⟩
    | ct ρ4 => exact fun M4 H4 σ4 E6 => ⟨M4, ρ4, by omega, E6, p⟩
    | bk ρ4 => exact fun M4 H4 σ4 E6 => (show PostO K rm M0 B io cs own oB oC De (.nx ρ4) from p) M4 H4 σ4 E6.pull
    | rt e ρ4 => exact p
  · have hi : ds.length ≤ i := by omega
    rw [List.drop_eq_nil_of_le hi] at run
    exact .inl ⟨sstop i hi, (show PostO K rm M0 B io cs own oB oC De (.nx ρ2) from run) M2 H2 σ2 E2.pull⟩
/-- while t: .. -/
theorem sd_while {tt : TT} {tb : TS} {ft : Env → W Bool} {fb : Env → W Out} (ht : PDT K mg Eo own tt ft) (hb : SD K mg Eo rm ioS own own own own tb fb) : SD K mg Eo rm ioS own own oB oC (tWhile tt tb) (fWhile ft fb) := fun M0 B io cs M H σ ρ De hio E h => by
  obtain ⟨I, ⟨n0, h0⟩, turn⟩ := h
  refine ⟨fun n σ2 H2 => ∃ M2 ρ2, EnvS K own M0 B io cs M2 H2 σ2 ρ2 ∧ I n ρ2, ⟨n0, M, ρ, E, h0⟩, ?_⟩
  rintro n σ2 H2 ⟨M2, ρ2, E2, i2⟩
  refine ht M2 ρ2 σ2 H2 _ E2.mm E2.env ((ft ρ2).mono (fun b p H3 e3 => ?_) (fun n z => E2.px z) (turn n ρ2 i2))
  have E3 := E2.ex e3
  cases b with
  | false => exact (show PostO K rm M0 B io cs own oB oC De (.nx ρ2) from p) M2 H3 σ2 E3
  | true =>
    refine ⟨fun σ4 H4 => ∃ m, m < n ∧ ∃ M4 ρ4, EnvS K own M0 B io cs M4 H4 σ4 ρ4 ∧ I m ρ4, fun σ4 H4 z => z, ?_⟩
    refine hb M0 B io cs M2 H3 σ2 ρ2 _ hio E3 ((fb ρ2).mono (fun o p => ?_) (fun _ z => z) p)
    cases o with
    | nx ρ4 => exact fun M4 H4 σ4 E6 => by obtain ⟨m, hm, hI⟩ := p; exact ⟨m, hm, M4, ρ4, E6, hI⟩
    | ct ρ4 => exact fun M4 H4 σ4 E6 => by obtain ⟨m, hm, hI⟩ := p; exact ⟨m, hm, M4, ρ4, E6, hI⟩
    | bk ρ4 => exact fun M4 H4 σ4 E6 => (show PostO K rm M0 B io cs own oB oC De (.nx ρ4) from p) M4 H4 σ4 E6
    | rt e ρ4 => exact p
end
/-! ### defs -/
def startD (n : Nat) (ds : List D) : Env := ds.map some ++ List.replicate (n - ds.length) none
def defF (n : Nat) (fs : Env → W Out) : List D → W D := fun ds => (fs (startD n ds)).bind fun
  | .rt d _ => .ok d
  | .nx _ => .ok .non
  | _ => .stuck
section
variable {K : PySem.W.Frag} {mg : Str → Option Value} {E : XK}
theorem start_get {K : PySem.W.Frag} {M : Addr → Prop} {H : Hp} {N : List Str} : ∀ {ds : List D} {vs : List V}, DxAll K M H ds vs → EnvE K M [] H (L2.start N vs) (startD N.length ds) := fun {ds vs} r => by
  have hl := DxAll.len r
  refine ⟨by unfold L2.start startD; simp [hl], fun i d _ h => ?_, fun i d n h => by cases n⟩
  unfold startD at h
  by_cases hi : i < ds.length
  · rw [List.getElem?_append_left (by simpa using hi), List.getElem?_map] at h
    cases q : ds[i]? with
    | none => rw [q] at h; cases h
    | some d' =>
      rw [q] at h
      cases h
      obtain ⟨v, hv, rv⟩ := DxAll.get r q
      refine ⟨v, ?_, rv⟩
      unfold L2.start
      rw [List.getElem?_append_left (by simpa [hl] using hi), List.getElem?_map, hv]; rfl
  · rw [List.getElem?_append_right (by simpa using hi)] at h
    rw [List.getElem?_replicate] at h
    split at h <;> cases h
theorem spF_len {n : Nat} {m : Md} {F : List D → W D} {vs : List V} {H : Hp} {Q : VK} {E : XK} (h : spF K mg n m F vs H Q E) : vs.length = n := by
  obtain ⟨M, ds, hl, _, r, _⟩ := h
  rw [DxAll.len r, hl]
/-- a def's body keeps the promise -/
theorem sd_def {m : Md} {N : List Str} {ts : TS} {fs : Env → W Out} {oN oB oC : List Nat} (hm : m ≠ .s) (h : SD K mg E m [] [] oN oB oC ts fs) {vs : List V} {H : Hp} {Q : VK} {n : Nat} (q : spF K mg n m (defF N.length fs) vs H Q E) : ts { nx := fun _ H' => Q .non H', rt := Q } (L2.start N vs) H := by
  obtain ⟨M, ds, _, mk, r, run⟩ := q
  have nf : ∀ b, ¬ Fp [] b := fun b ⟨p, hp, _⟩ => by cases hp
  have ex : ∀ {H' : Hp}, Kx K (Fp []) H H' → Ex H H' := fun k b o e => k.k b o (nf b) e
  have E0 : EnvS K [] M H [] [] M H (L2.start N vs) (startD N.length ds) := ⟨start_get r, mk, fun _ z => z, mk, fun i _ _ n => (by cases n), fun c hc => (by cases hc), fun i _ _ _ _ n => (by cases n), Kx.refl, fun c hc => (by cases hc), fun p hp => (by cases hp)⟩
  refine h M H [] [] M H _ _ _ rfl E0 ((fs (startD N.length ds)).mono (fun o p => ?_) (fun n z cls H' k e => z cls H' (ex k) e) run)
  cases o with
  | nx ρ =>
    intro M1 H1 σ1 E1
    exact Post.use (show Post K M H Q m .non from p) (ex E1.kx) rfl (fun _ q => nomatch q)
  | rt d ρ =>
    have p' : Post K M H Q m d := p
    cases m with
    | s => exact absurd rfl hm
    | v => exact fun v H1 k rv _ => p' v H1 (ex k) rv
    | f =>
      obtain ⟨es, rfl, k⟩ := p'
      exact ⟨es, rfl, fun a xs H1 kx n h1 h2 _ => k a xs H1 (ex kx) n h1 h2⟩
  | bk ρ => exact False.elim p
  | ct ρ => exact False.elim p
end
end NV

set_option Elab.async false
set_option linter.all false
set_option maxRecDepth 100000
set_option maxHeartbeats 4000000
/-! # promises over the heap, told over plain data -/
namespace NV
open PySem PySem.Spec PyProof.Rows L2
open Evl (Ex)
open Classical in
noncomputable def hide (M : Addr → Prop) (H : Hp) : Hp := fun a => if M a then none else H a
open Classical in
noncomputable def unhide (M : Addr → Prop) (H H' : Hp) : Hp := fun a => if M a then H a else H' a
section
variable {K : PySem.W.Frag} {M : Addr → Prop} {H H' : Hp}
theorem hide_yes {a : Addr} (h : M a) : hide M H a = none := if_pos h
theorem hide_no {a : Addr} (h : ¬ M a) : hide M H a = H a := if_neg h
theorem unhide_yes {a : Addr} (h : M a) : unhide M H H' a = H a := if_pos h
theorem unhide_no {a : Addr} (h : ¬ M a) : unhide M H H' a = H' a := if_neg h
theorem hide_some {a : Addr} {o : HO} (h : hide M H a = some o) : ¬ M a ∧ H a = some o := by
  by_cases q : M a
  · rw [hide_yes q] at h; cases h
  · rw [hide_no q] at h; exact ⟨q, h⟩
def NM : Addr → Prop := fun _ => False
theorem hide_t (mk : Mk M H) {a : Addr} {xs : List V} (h : SqT K H a xs) : SqT K (hide M H) a xs := by
  have no : ∀ o, H a = some o → (∀ ys, o ≠ .lst ys) → ¬ M a := fun o e n z => by
    obtain ⟨ys, q⟩ := mk a z
    rw [e] at q; cases q; exact n _ rfl
  rcases h with (h | ⟨u, h⟩) | h
  · exact .inl (.inl (by rw [hide_no (no _ h fun _ q => nomatch q)]; exact h))
  · exact .inl (.inr ⟨u, by rw [hide_no (no _ h fun _ q => nomatch q)]; exact h⟩)
  · exact .inr h
mutual
theorem Dx.hide (mk : Mk M H) : ∀ (d : D) {v : V}, Dx K M H d v → Dx K NM (hide M H) d v
  | .non, _, h => h
  | .bl _, _, h => h
  | .int _, _, h => h
  | .str _, _, h => h
  | .ty _, _, h => h
  | .lst ds, _, h => by
    obtain ⟨a, xs, e, n, h1, h2⟩ := h
    exact ⟨a, xs, e, fun z => z, by rw [hide_no n]; exact h1, DxAll.hide mk ds h2⟩
  | .tup ds, _, h => by
    obtain ⟨a, xs, e, h1, h2⟩ := h
    exact ⟨a, xs, e, hide_t mk h1, DxAll.hide mk ds h2⟩
  | .strm, _, h => by
    obtain ⟨p, q, ns, e, n1, n2, h1, h2⟩ := h
    exact ⟨p, q, ns, e, fun z => z, fun z => z, by rw [hide_no n1]; exact h1, by rw [hide_no n2]; exact h2⟩
  | .scr, _, h => by
    obtain ⟨a, ns, e, h1, h2⟩ := h
    refine ⟨a, ns, e, h1.imp (fun z => ⟨fun z => z, ?_⟩) id, h2⟩
    rcases z.2 with h | ⟨u, h⟩
    · exact .inl (by rw [hide_no z.1]; exact h)
    · exact .inr ⟨u, by rw [hide_no z.1]; exact h⟩
theorem DxAll.hide (mk : Mk M H) : ∀ (ds : List D) {vs : List V}, DxAll K M H ds vs → DxAll K NM (hide M H) ds vs
  | [], _, h => h
  | d :: ds, _, h => by
    obtain ⟨x, r, e, h1, h2⟩ := h
    exact ⟨x, r, e, Dx.hide mk d h1, DxAll.hide mk ds h2⟩
end
mutual
/-- what stands with M hidden stands outside of M -/
theorem Dx.shows {N : Addr → Prop} (k : ∀ b o, H' b = some o → ¬ M b) : ∀ (d : D) {v : V}, Dx K N H' d v → Dx K (MU M N) (unhide M H H') d v
  | .non, _, h => h
  | .bl _, _, h => h
  | .int _, _, h => h
  | .str _, _, h => h
  | .ty _, _, h => h
  | .lst ds, _, h => by
    obtain ⟨a, xs, e, n, h1, h2⟩ := h
    exact ⟨a, xs, e, fun z => z.elim (k _ _ h1) n, by rw [unhide_no (k _ _ h1)]; exact h1, DxAll.shows k ds h2⟩
  | .tup ds, _, h => by
    obtain ⟨a, xs, e, h1, h2⟩ := h
    refine ⟨a, xs, e, ?_, DxAll.shows k ds h2⟩
    rcases h1 with (h | ⟨u, h⟩) | h
    · exact .inl (.inl (by rw [unhide_no (k _ _ h)]; exact h))
    · exact .inl (.inr ⟨u, by rw [unhide_no (k _ _ h)]; exact h⟩)
    · exact .inr h
  | .strm, _, h => by
    obtain ⟨p, q, ns, e, n1, n2, h1, h2⟩ := h
    exact ⟨p, q, ns, e, fun z => z.elim (k _ _ h1) n1, fun z => z.elim (k _ _ h2) n2, by rw [unhide_no (k _ _ h1)]; exact h1, by rw [unhide_no (k _ _ h2)]; exact h2⟩
  | .scr, _, h => by
    obtain ⟨a, ns, e, h1, h2⟩ := h
    refine ⟨a, ns, e, h1.imp (fun z => ?_) id, h2⟩
    rcases z.2 with h | ⟨u, h⟩
    · exact ⟨fun y => y.elim (k _ _ h) z.1, .inl (by rw [unhide_no (k _ _ h)]; exact h)⟩
    · exact ⟨fun y => y.elim (k _ _ h) z.1, .inr ⟨u, by rw [unhide_no (k _ _ h)]; exact h⟩⟩
theorem DxAll.shows {N : Addr → Prop} (k : ∀ b o, H' b = some o → ¬ M b) : ∀ (ds : List D) {vs : List V}, DxAll K N H' ds vs → DxAll K (MU M N) (unhide M H H') ds vs
  | [], _, h => h
  | d :: ds, _, h => by
    obtain ⟨x, r, e, h1, h2⟩ := h
    exact ⟨x, r, e, Dx.shows k d h1, DxAll.shows k ds h2⟩
end
theorem Dx.show (k : ∀ b o, H' b = some o → ¬ M b) {d : D} {v : V} (h : Dx K NM H' d v) : Dx K M (unhide M H H') d v := Dx.less (fun b z => .inl z) d (Dx.shows k d h)
theorem ex_unhide (k : ∀ b o, H' b = some o → ¬ M b) (e : Ex (hide M H) H') : Ex H (unhide M H H') := fun a o h => by
  by_cases q : M a
  · rw [unhide_yes q]; exact h
  · rw [unhide_no q]; exact e a o (by rw [hide_no q]; exact h)
end
theorem oneD {ds : List D} (h : ds.length = 1) : ∃ x, ds = [x] := by
  cases ds with
  | nil => simp at h
  | cons x r => cases r with
    | nil => exact ⟨x, rfl⟩
    | cons y r => simp at h
theorem twoD {ds : List D} (h : ds.length = 2) : ∃ x y, ds = [x, y] := by
  cases ds with
  | nil => simp at h
  | cons x r =>
    obtain ⟨y, rfl⟩ := oneD (ds := r) (by simpa using h)
    exact ⟨x, y, rfl⟩
theorem threeD {ds : List D} (h : ds.length = 3) : ∃ x y z, ds = [x, y, z] := by
  cases ds with
  | nil => simp at h
  | cons x r =>
    obtain ⟨y, z, rfl⟩ := twoD (ds := r) (by simpa using h)
    exact ⟨x, y, z, rfl⟩
section
variable {K : PySem.W.Frag} {M : Addr → Prop} {H : Hp}
theorem args1 {x : D} {vs : List V} (h : DxAll K M H [x] vs) : ∃ v, vs = [v] ∧ Dx K M H x v := by
  obtain ⟨v, _, rfl, h1, rfl⟩ := h
  exact ⟨v, rfl, h1⟩
theorem args2 {x y : D} {vs : List V} (h : DxAll K M H [x, y] vs) : ∃ v w, vs = [v, w] ∧ Dx K M H x v ∧ Dx K M H y w := by
  obtain ⟨v, _, rfl, h1, w, _, rfl, h2, rfl⟩ := h
  exact ⟨v, w, rfl, h1, h2⟩
theorem args3 {x y z : D} {vs : List V} (h : DxAll K M H [x, y, z] vs) : ∃ u v w, vs = [u, v, w] ∧ Dx K M H x u ∧ Dx K M H y v ∧ Dx K M H z w := by
  obtain ⟨u, _, rfl, h0, v, _, rfl, h1, w, _, rfl, h2, rfl⟩ := h
  exact ⟨u, v, w, rfl, h0, h1, h2⟩
end
section
variable {P : Program} {w : World} {K : PySem.W.Frag} {mg : Str → Option Value} {base : Heap}
/-- a def that raises nothing: some lists may be hidden from it -/
theorem Cal.frame {k : Nat} {x : Str} {ps : List Str} {sp : Sp} (C : Cal P w K mg base CX0 k x ps sp) :
    Cal P w K mg base CX0 k x ps (fun vs H Q E => ∃ M, Mk M H ∧ sp vs (hide M H) (fun v H' => (∀ b o, H' b = some o → ¬ M b) → Q v (unhide M H H')) (fun _ _ _ => False)) := by
  obtain ⟨f, fd, hm, kp, bd, F⟩ := C
  refine ⟨f, fd, hm, kp, bd, fun vs H Q E ⟨M, _, h⟩ => F.len _ _ _ _ h, fun A outer s H args us vs Q E hr he hb hv hs => ?_⟩
  obtain ⟨M, mk, hs⟩ := hs
  have hm_obj : ∀ b, M b → ∃ o, s.heap.get? b = some o := fun b z => by
    obtain ⟨xs, q⟩ := mk b z
    obtain ⟨_, its, n, _, e⟩ := he.hok b _ q
    exact ⟨_, e⟩
  have he1 : Env0 P w K mg base A outer s (hide M H) := by
    refine ⟨he.frames, he.mod, fun d o e => ?_, he.bsz, he.funs, fun d hd => ?_, fun a o e => ?_, he.bare⟩
    · obtain ⟨e1, e2⟩ := he.bs d o e
      refine ⟨e1, ?_⟩
      by_cases q : M d
      · exact hide_yes q
      · rw [hide_no q]; exact e2
    · have e2 := he.frf d hd
      by_cases q : M d
      · exact hide_yes q
      · rw [hide_no q]; exact e2
    · obtain ⟨q, e'⟩ := hide_some e
      refine (he.hok a o e').stay (fun b u _ z => z) (fun b z => ?_) (fun b xs z => ?_)
      · rw [hide_no (fun y => by obtain ⟨ys, y⟩ := mk b y; rw [z] at y; cases y)]; exact z
      · rw [hide_no (fun y => by obtain ⟨ys, y⟩ := mk b y; rw [z] at y; cases y)]; exact z
  refine codeAny_mono (F.run A outer s _ args us vs _ _ hr he1 hb hv hs) fun r s' hq2 => ?_
  cases r with
  | error e => exact hq2
  | ok fl =>
    cases fl with
    | ret u =>
      obtain ⟨v, H', os, bare, un, hok, rv, qq⟩ := hq2
      have nM : ∀ b o, H' b = some o → ¬ M b := fun b o e z => by
        obtain ⟨ob, q⟩ := hm_obj b z
        rw [un.free b ob q (hide_yes z) (by simp)] at e
        cases e
      have nfs : ∀ b, M b → b ∉ frs outer := fun b z hb => by
        obtain ⟨xs, q⟩ := mk b z
        rw [he.frf b hb] at q; cases q
      have hid : ∀ b, H b = none → hide M H b = none := fun b n => by
        by_cases q : M b
        · exact hide_yes q
        · rw [hide_no q]; exact n
      have nlst : ∀ b o, H b = some o → (∀ xs, o ≠ .lst xs) → ¬ M b := fun b o e n z => by
        obtain ⟨xs, q⟩ := mk b z
        rw [e] at q; cases q; exact n _ rfl
      refine ⟨v, unhide M H H', os, bare, ⟨fun b o e n => un.keep b o e (hid b n), fun b o e n => un.slot b o e (hid b n), fun b o e n hx => ?_, un.there, fun b xs e => ?_, fun b o y e => ?_, fun b tb e => ?_⟩, fun a o e => ?_, rv, qq nM⟩
      · by_cases q : M b
        · rw [unhide_yes q]; exact n
        · rw [unhide_no q]; exact un.free b o e (hid b n) hx
      · have q := nlst b _ e (fun _ z => nomatch z)
        rw [unhide_no q]
        exact un.tups b xs (by rw [hide_no q]; exact e)
      · have q := nlst b _ e (fun _ z => nomatch z)
        rw [unhide_no q]
        exact un.frzs b o y (by rw [hide_no q]; exact e)
      · have q := nlst b _ e (fun _ z => nomatch z)
        obtain ⟨more, z⟩ := un.tbls b tb (by rw [hide_no q]; exact e)
        exact ⟨more, by rw [unhide_no q]; exact z⟩
      · by_cases q : M a
        · rw [unhide_yes q] at e
          obtain ⟨xs, z⟩ := mk a q
          rw [z] at e; cases e
          obtain ⟨hz, its, n, ri, e1⟩ := he.hok a _ z
          exact ⟨hz, its, n, ri, un.keep a _ e1 (hide_yes q) (nfs a q) (by simp)⟩
        · rw [unhide_no q] at e
          refine (hok a o e).stay (fun b u _ z => z) (fun b z => ?_) (fun b xs z => ?_)
          · rw [unhide_no (nM _ _ z)]; exact z
          · rw [unhide_no (nM _ _ z)]; exact z
    | next => exact hq2
    | brk => exact hq2
    | cont => exact hq2
/-- an old promise told over plain data -/
theorem Cal.bridge {k n : Nat} {x : Str} {ps : List Str} {sp : Sp} (F : List D → W D) (C : Cal P w K mg base CX0 k x ps sp)
    (h : ∀ (ds : List D) (vs : List V) (H : Hp) (Q : VK), ds.length = n → DxAll K NM H ds vs → (F ds).run (fun d => ∀ v H', Ex H H' → Dx K NM H' d v → Q v H') (fun _ => False) → sp vs H Q (fun _ _ _ => False)) : Cal P w K mg base CX0 k x ps (spF K mg n .v (fun ds => W.calm (F ds))) :=
  C.frame.imp fun vs H Q E ⟨M, ds, hl, mk, r, run⟩ => ⟨M, mk, h ds vs (hide M H) _ hl (DxAll.hide mk ds r) ((F ds).mono (fun d p v H' e rv nM => p v _ (ex_unhide nM e) (Dx.show nM rv)) (fun _ z => z) run)⟩
/-- .. one that hands back a new list -/
theorem Cal.bridgeF {k n : Nat} {x : Str} {ps : List Str} {sp : Sp} (F : List D → W D) (C : Cal P w K mg base CX0 k x ps sp)
    (h : ∀ (ds : List D) (vs : List V) (H : Hp) (Q : VK), ds.length = n → DxAll K NM H ds vs → (F ds).run (fun d => ∃ es, d = .lst es ∧ ∀ a xs H', Ex H H' → H a = none → H' a = some (.lst xs) → DxAll K (M1 NM a) H' es xs → Q (.ref a) H') (fun _ => False) → sp vs H Q (fun _ _ _ => False)) : Cal P w K mg base CX0 k x ps (spF K mg n .f (fun ds => W.calm (F ds))) :=
  C.frame.imp fun vs H Q E ⟨M, ds, hl, mk, r, run⟩ => ⟨M, mk, h ds vs (hide M H) _ hl (DxAll.hide mk ds r) ((F ds).mono (fun d p => by
    obtain ⟨es, rfl, k⟩ := p
    refine ⟨es, rfl, fun a xs H' e n h1 h2 nM => ?_⟩
    have nMa := nM a _ h1
    refine k a xs _ (ex_unhide nM e) (by rw [hide_no nMa] at n; exact n) (by rw [unhide_no nMa]; exact h1) (DxAll.less (fun b z => ?_) es (DxAll.shows nM es h2))
    rcases z with z | z
    · exact .inl z
    · exact .inr (.inr z)) (fun _ z => z) run)⟩
theorem law_sp {F : List D → W D} (h : (F [.scr]).run (fun d => d = .bl true) (fun _ => False)) {vs : List V} {H : Hp} {Q : VK} {E : XK} (q : spLaw K mg vs H Q E) : spF K mg 1 .v F vs H Q E := by
  obtain ⟨a, ns, rfl, hS, hl, k⟩ := q
  refine ⟨NM, [.scr], rfl, fun a z => False.elim z, ⟨.ref a, [], rfl, ⟨a, ns, rfl, ?_, hl⟩, rfl⟩, (F [.scr]).mono (fun d e v H' _ r => ?_) (fun _ z => False.elim z) h⟩
  · rcases hS with h | h
    · exact .inl ⟨fun z => z, h⟩
    · exact .inr h
  · subst e
    cases r
    exact k H'
end
end NV

set_option Elab.async false
set_option linter.all false
set_option maxRecDepth 100000
set_option maxHeartbeats 4000000
/-! # more judgements -/
namespace NV
open PySem PySem.Spec PyProof.Rows L2
open Evl (Ex)
section
variable {K : PySem.W.Frag} {mg : Str → Option Value} {Eo : XK} {own : List Nat} {m : Md}
theorem pdt_test {te : TE} {fe : Env → W D} (he : PD K mg Eo own .v te fe) : PDT K mg Eo own (tTest te) (fT fe) := fun M ρ σ H Q mk E h =>
  he M ρ σ H _ mk E ((fe ρ).mono (fun x p v H1 e1 r1 => by
    obtain ⟨b, rfl, p⟩ := dB_run (m := .v) p
    cases r1
    exact ⟨b, rfl, p H1 e1⟩) (fun _ z => z) h)
/-- a value's truth -/
def dTru : D → W Bool
  | .non => .ok false
  | .bl b => .ok b
  | .int i => .ok (i != 0)
  | .str l => .chk (l.length ≤ 16777216) (.ok (!l.isEmpty))
  | .lst ds => .ok (!ds.isEmpty)
  | .tup ds => .ok (!ds.isEmpty)
  | _ => .stuck
def fTru (fe : Env → W D) : Env → W Bool := fun ρ => (fe ρ).bind dTru
theorem pdt_truth {te : TE} {fe : Env → W D} (he : PD K mg Eo own .s te fe) : PDT K mg Eo own (fun σ H Q => te σ H fun x H' => ∃ k, TruV K x H' k ∧ Q k H') (fTru fe) := fun M ρ σ H Q mk E h =>
  he M ρ σ H _ mk E ((fe ρ).mono (fun x p v H1 e1 r1 => by
    have emp : ∀ {ds : List D} {xs : List V}, DxAll K M H1 ds xs → (!xs.isEmpty) = !ds.isEmpty := fun {ds xs} r => by
      have := DxAll.len r
      cases ds <;> cases xs <;> first | rfl | (simp at this)
    cases x <;> first | (exact False.elim p) | skip
    · cases r1.val (fun _ q => nomatch q); exact ⟨_, rfl, p H1 e1⟩
    · cases r1.val (fun _ q => nomatch q); exact ⟨_, rfl, p H1 e1⟩
    · cases r1.val (fun _ q => nomatch q); exact ⟨_, rfl, p H1 e1⟩
    · rename_i l
      cases r1.val (fun _ q => nomatch q)
      refine ⟨_, ⟨p.1, ?_⟩, p.2 H1 e1⟩
      show (!l.isEmpty) = ((l.length : Int) != 0)
      cases l with
      | nil => rfl
      | cons a r =>
        show true = _
        symm
        rw [bne_iff_ne]
        show ((r.length + 1 : Nat) : Int) ≠ 0
        omega
    · obtain ⟨a, xs, rfl, h1, h2⟩ := r1.lst; exact ⟨_, .inl ⟨xs, .of h1, (emp h2).symm⟩, p H1 e1⟩
    · obtain ⟨a, xs, rfl, h1, h2⟩ := r1.val (fun _ q => nomatch q); exact ⟨_, .inr (.inl ⟨xs, h1, (emp h2).symm⟩), p H1 e1⟩) (fun _ z => z) h)
def fRetN : Env → W Out := fun ρ => .ok (.rt .non ρ)
theorem sd_retN {ioS oN oB oC : List Nat} : SD K mg Eo .v ioS own oN oB oC tRetN fRetN := fun M0 B io cs M H σ ρ De hio E h =>
  (show PostR K M0 B io De.rt .v .non ρ from h) .non H E.kx rfl E.io_at
/-- a dict of the top, by a text -/
def scalV : D → V
  | .int i => .int i
  | .str l => .str (S l)
  | .bl b => .bl b
  | _ => .non
def dDict (kv : List (List Nat × D)) : D → W D
  | .str l => (match kv.lookup l with
    | some d => .ok d
    | none => .stuck)
  | _ => .stuck
theorem lookup_S (kv : List (List Nat × D)) (l : List Nat) : (kv.map fun p => (S p.1, scalV p.2)).lookup (S l) = (kv.lookup l).map scalV := by
  induction kv with
  | nil => rfl
  | cons p r ih =>
    rw [List.map_cons, List.lookup_cons, List.lookup_cons, ih]
    by_cases q : l = p.1
    · have e1 : (S l == S p.1) = true := by rw [q]; exact beq_self_eq_true _
      have e2 : (l == p.1) = true := by rw [q]; exact beq_self_eq_true _
      simp only [e1, e2]; rfl
    · have e1 : (S l == S p.1) = false := beq_eq_false_iff_ne.mpr fun z => q (S_inj z)
      have e2 : (l == p.1) = false := beq_eq_false_iff_ne.mpr q
      simp only [e1, e2]
theorem lookup_mem {kv : List (List Nat × D)} {l : List Nat} {d : D} (h : kv.lookup l = some d) : ∃ k, (k, d) ∈ kv := by
  induction kv with
  | nil => cases h
  | cons p r ih =>
    rw [List.lookup_cons] at h
    cases e : l == p.1 with
    | true => rw [e] at h; cases h; exact ⟨p.1, List.mem_cons_self⟩
    | false => rw [e] at h; obtain ⟨k, hk⟩ := ih h; exact ⟨k, List.mem_cons_of_mem _ hk⟩
theorem pd_dict {kvs : List (Str × V)} (kv : List (List Nat × D)) (hkv : kvs = kv.map fun p => (S p.1, scalV p.2)) (hs : kv.all (fun p => p.2.scal) = true) {te : TE} {fe : Env → W D} (he : PD K mg Eo own .v te fe) : PD K mg Eo own .v (mDict kvs te) (fUn (dDict kv) fe) := fun M ρ σ H Q mk E h =>
  he M ρ σ H _ mk E ((fe ρ).mono (fun x p v H1 e1 r1 => by
    cases x <;> first | (exact False.elim p) | skip
    rename_i l
    cases r1
    cases q : kv.lookup l with
    | none => dsimp only [dDict] at p; rw [q] at p; exact False.elim p
    | some d =>
      dsimp only [dDict] at p; rw [q] at p
      show match kvs.lookup (S l) with | some v => Q v H1 | none => False
      rw [hkv, lookup_S, q]
      obtain ⟨k, hk⟩ := lookup_mem q
      have sc := List.all_eq_true.mp hs _ hk
      refine (show PostV K M H Q d from p) (scalV d) H1 e1 ?_
      cases d <;> first | rfl | (cases sc)) (fun _ z => z) h)
/-- zip -/
theorem pdi_zip {st : Bool} {ta : TA} {fa : Env → W (List D)} (h : PDA K mg Eo own ta fa) : PDI K mg Eo own true (RZ.iZipA K ta) (fZip fa) := fun M ρ σ H R mk E r =>
  h M ρ σ H _ mk E ((fa ρ).mono (fun x p v H1 e1 r1 => by
    match x, p, r1 with
    | [.lst ds, .lst es], p, ⟨_, _, e, ⟨a, xs, q1, q2, q3, q4⟩, _, _, e', ⟨b, ys, s1, s2, s3, s4⟩, q5⟩ =>
      cases q1; cases s1; cases q5; cases e'
      exact ⟨a, b, xs, ys, e, .inl ⟨.of q3, .of s3, p _ _ e1 (srv_z q3 q4 (fun _ => q2) s3 s4 fun _ => s2)⟩⟩) (fun _ z => z) r)
/-- texts joined -/
def dJoin : D → D → W D
  | .str a, .lst ds => (match strsD ds with
    | some ls => .chk ((ls.map (·.length)).sum + ls.length * a.length ≤ 16777216) (.ok (.str (TL.joinL a ls)))
    | none => .stuck)
  | _, _ => .stuck
theorem join_any (a : List Nat) (ls : List (List Nat)) : Txt.join (S a) (ls.map S) = S (TL.joinL a ls) := by
  refine TL.ext_tl ?_
  rw [TL.join_eq, TL.tl_join]
  have e : (ls.map S).map TL.tl = ls := by rw [List.map_map]; exact List.map_id _
  rw [e]
theorem joinL_nil : ∀ ls : List (List Nat), TL.joinL [] ls = ls.flatten
  | [] => rfl
  | [p] => by simp [TL.joinL]
  | p :: q :: r => by
    show p ++ ([] ++ TL.joinL [] (q :: r)) = _
    rw [joinL_nil (q :: r)]
    simp
theorem dJoin_ok {a : List Nat} {ls : List (List Nat)} {q : D → Prop} {e : Str → Prop} (h : (ls.map (·.length)).sum + ls.length * a.length ≤ 16777216) (k : q (.str (TL.joinL a ls))) : (dJoin (.str a) (.lst (ls.map D.str))).run q e := by
  dsimp only [dJoin]
  rw [strsD_map]
  exact ⟨h, k⟩
def fJoin (fo fe : Env → W D) : Env → W D := fun ρ => (fo ρ).bind fun
  | .str a => (fe ρ).bind fun y => dJoin (.str a) y
  | _ => .stuck
theorem pd_join {to te : TE} {fo fe : Env → W D} (ho : PD K mg Eo own .s to fo) (he : PD K mg Eo own .s te fe) : PD K mg Eo own m (tM1 (fun x xs H Q => ∃ a p, ∃ ys : List Str, x = .str a ∧ xs = [.ref p] ∧ (SqL K H p (ys.map V.str) ∨ SqT K H p (ys.map V.str)) ∧
      (ys.map (·.length)).sum + ys.length * a.length ≤ 16777216 ∧ Q (.str (Txt.join a ys)) H) to te) (fJoin fo fe) := fun M ρ σ H Q mk E h =>
  ho M ρ σ H _ mk E ((fo ρ).mono (fun x p v H1 e1 r1 => by
    cases x with
    | str a =>
      cases r1.val (fun _ q => nomatch q)
      refine ⟨⟨S a, rfl⟩, he M ρ σ H1 _ (mk.ex e1) (E.ex e1) ((fe ρ).mono (fun y p w H2 e2 r2 => ?_) (fun n z => z.mono e1) p)⟩
      cases y <;> first | (exact False.elim p) | skip
      rename_i ds
      obtain ⟨b, ys, rfl, g1, g2⟩ := r2.lst
      cases q : strsD ds with
      | none => dsimp only [dJoin] at p; rw [q] at p; exact False.elim p
      | some ls =>
        dsimp only [dJoin] at p; rw [q] at p
        obtain ⟨p1, p2⟩ := p
        rw [strsD_eq q] at g2
        rw [dxs_eq g2] at g1
        refine ⟨S a, b, ls.map S, rfl, rfl, .inl (.of g1), ?_, ?_⟩
        · rw [List.map_map, List.length_map]; exact p1
        · rw [join_any]; exact Post.str (Post.mono (e1.trans e2) (show Post K M H Q m (.str (TL.joinL a ls)) from p2))
    | _ => exact False.elim p) (fun _ z => z) h)
end
end NV

set_option Elab.async false
set_option linter.all false
set_option maxRecDepth 100000
set_option maxHeartbeats 4000000
/-! # programs as plain data -/
namespace NV
open PySem PySem.Spec PyProof.Rows L2
open Evl (Ex)
/-- what is reckoned from a thing that the arguments tell -/
def W.ex {α β : Type} (P : β → Prop) (m : β → W α) : W α := ⟨fun q e => ∃ b, P b ∧ (m b).run q e, fun hq he ⟨b, p, z⟩ => ⟨b, p, (m b).mono hq he z⟩⟩
/-- one of two -/
def W.iff {α : Type} (p : Prop) (m n : W α) : W α := ⟨fun q e => (p → m.run q e) ∧ (¬ p → n.run q e), fun hq he z => ⟨fun h => m.mono hq he (z.1 h), fun h => n.mono hq he (z.2 h)⟩⟩
def treeX (t : Tr) : D := .str t.enc
def Row.x : Row → D
  | .set a t => .tup [.str [115, 101, 116], .int a, treeX t]
  | .move a b => .tup [.str [109, 111, 118, 101], .int a, .int b]
  | .cons a b c => .tup [.str [99, 111, 110, 115], .int a, .int b, .int c]
  | .head a b => .tup [.str [104, 101, 97, 100], .int a, .int b]
  | .tail a b => .tup [.str [116, 97, 105, 108], .int a, .int b]
  | .jump a n => .tup [.str [106, 117, 109, 112], .int a, .int n]
def prgX (rows : List Row) : D := .lst (rows.map Row.x)
theorem row_py (r : Row) : r.x.py = r.d := by cases r <;> rfl
theorem prg_py (rows : List Row) : (prgX rows).py = prgD rows := by
  show PyData.list (pyAll (rows.map Row.x)) = .list (rows.map Row.d)
  congr 1
  induction rows with
  | nil => rfl
  | cons r rs ih => show r.x.py :: pyAll (rs.map Row.x) = _; rw [row_py, ih]; rfl
section
variable {K : PySem.W.Frag} {M N : Addr → Prop} {H : Hp}
theorem row_of {r : Row} {v : V} (h : Dx K M H r.x v) : RowAt K H v r := by
  cases r <;> (obtain ⟨p, xs, rfl, h1, h2⟩ := h)
  · obtain ⟨_, _, rfl, q1, _, _, rfl, q2, _, _, rfl, q3, rfl⟩ := h2
    cases q1; cases q2; cases q3
    exact ⟨p, rfl, h1⟩
  · obtain ⟨_, _, rfl, q1, _, _, rfl, q2, _, _, rfl, q3, rfl⟩ := h2
    cases q1; cases q2; cases q3
    exact ⟨p, rfl, h1⟩
  · obtain ⟨_, _, rfl, q1, _, _, rfl, q2, _, _, rfl, q3, _, _, rfl, q4, rfl⟩ := h2
    cases q1; cases q2; cases q3; cases q4
    exact ⟨p, rfl, h1⟩
  · obtain ⟨_, _, rfl, q1, _, _, rfl, q2, _, _, rfl, q3, rfl⟩ := h2
    cases q1; cases q2; cases q3
    exact ⟨p, rfl, h1⟩
  · obtain ⟨_, _, rfl, q1, _, _, rfl, q2, _, _, rfl, q3, rfl⟩ := h2
    cases q1; cases q2; cases q3
    exact ⟨p, rfl, h1⟩
  · obtain ⟨_, _, rfl, q1, _, _, rfl, q2, _, _, rfl, q3, rfl⟩ := h2
    cases q1; cases q2; cases q3
    exact ⟨p, rfl, h1⟩
theorem row_to {r : Row} {v : V} (h : RowAt K H v r) : Dx K M H r.x v := by
  obtain ⟨p, rfl, h⟩ := h
  cases r
  · exact ⟨p, _, rfl, h, _, _, rfl, rfl, _, _, rfl, rfl, _, _, rfl, rfl, rfl⟩
  · exact ⟨p, _, rfl, h, _, _, rfl, rfl, _, _, rfl, rfl, _, _, rfl, rfl, rfl⟩
  · exact ⟨p, _, rfl, h, _, _, rfl, rfl, _, _, rfl, rfl, _, _, rfl, rfl, _, _, rfl, rfl, rfl⟩
  · exact ⟨p, _, rfl, h, _, _, rfl, rfl, _, _, rfl, rfl, _, _, rfl, rfl, rfl⟩
  · exact ⟨p, _, rfl, h, _, _, rfl, rfl, _, _, rfl, rfl, _, _, rfl, rfl, rfl⟩
  · exact ⟨p, _, rfl, h, _, _, rfl, rfl, _, _, rfl, rfl, _, _, rfl, rfl, rfl⟩
theorem prgs_of : ∀ {rows : List Row} {vs : List V}, DxAll K M H (rows.map Row.x) vs → PrgL K H vs rows
  | [], _, h => by cases h; exact .nil
  | r :: rs, _, h => by
    obtain ⟨x, t, rfl, h1, h2⟩ := h
    exact .cons (row_of h1) (prgs_of h2)
theorem prgs_to : ∀ {rows : List Row} {vs : List V}, PrgL K H vs rows → DxAll K M H (rows.map Row.x) vs
  | _, _, .nil => rfl
  | _, _, .cons h t => ⟨_, _, rfl, row_to h, prgs_to t⟩
theorem prg_of {rows : List Row} {v : V} (h : Dx K M H (prgX rows) v) : ∃ a xs, v = .ref a ∧ H a = some (.lst xs) ∧ PrgL K H xs rows := by
  obtain ⟨a, xs, rfl, _, h1, h2⟩ := h
  exact ⟨a, xs, rfl, h1, prgs_of h2⟩
end
theorem flat_tree (t : Tr) (n : Nat) : (treeX t).flat n = true := sOk_enc t
theorem row_flat (r : Row) : r.x.flat 1 = true := by
  cases r with
  | set a t =>
    show (sOk [115, 101, 116] && (true && (sOk t.enc && true))) = true
    rw [sOk_enc]; rfl
  | move a b => rfl
  | cons a b c => rfl
  | head a b => rfl
  | tail a b => rfl
  | jump a n => rfl
theorem flat_mono : (∀ (d : D) (n m : Nat), n ≤ m → d.flat n = true → d.flat m = true) ∧ (∀ (ds : List D) (n m : Nat), n ≤ m → flatAll ds n = true → flatAll ds m = true) := by
  have h : ∀ k : Nat, (∀ (d : D) (n m : Nat), sizeOf d ≤ k → n ≤ m → d.flat n = true → d.flat m = true) ∧ (∀ (ds : List D) (n m : Nat), sizeOf ds ≤ k → n ≤ m → flatAll ds n = true → flatAll ds m = true) := by
    intro k
    induction k with
    | zero =>
      refine ⟨fun d n m hs => ?_, fun ds n m hs => ?_⟩
      · cases d <;> simp at hs
      · cases ds <;> simp at hs
    | succ k ih =>
      refine ⟨fun d n m hs hnm h => ?_, fun ds n m hs hnm h => ?_⟩
      · cases d with
        | lst ds =>
          cases n with
          | zero => cases h
          | succ n => cases m with
            | zero => omega
            | succ m => exact ih.2 ds n m (by simp at hs; omega) (by omega) h
        | tup ds =>
          cases n with
          | zero => cases h
          | succ n => cases m with
            | zero => omega
            | succ m => exact ih.2 ds n m (by simp at hs; omega) (by omega) h
        | _ => exact h
      · cases ds with
        | nil => rfl
        | cons d ds =>
          have h' : (d.flat n && flatAll ds n) = true := h
          rw [Bool.and_eq_true] at h'
          simp at hs
          show (d.flat m && flatAll ds m) = true
          rw [ih.1 d n m (by omega) hnm h'.1, ih.2 ds n m (by omega) hnm h'.2]; rfl
  exact ⟨fun d n m => (h (sizeOf d)).1 d n m (Nat.le_refl _), fun ds n m => (h (sizeOf ds)).2 ds n m (Nat.le_refl _)⟩
theorem flat_le {d : D} {n m : Nat} (h : d.flat n = true) (hm : n ≤ m) : d.flat m = true := flat_mono.1 d n m hm h
theorem rows_flat : ∀ rows : List Row, flatAll (rows.map Row.x) 1 = true
  | [] => rfl
  | r :: rs => by
    show (r.x.flat 1 && flatAll (rs.map Row.x) 1) = true
    rw [row_flat, rows_flat rs]; rfl
theorem prg_flat (rows : List Row) : (prgX rows).flat 2 = true := rows_flat rows
theorem prg_flat64 (rows : List Row) : (prgX rows).flat 64 = true := flat_le (prg_flat rows) (by decide)
theorem eqD_prg (p q : List Row) : eqD (prgX p) (prgX q) = decide (p = q) := by
  rw [← eqv_py _ _ 2 2 (prg_flat p) (prg_flat q), prg_py, prg_py, prg_eqv]
theorem eqD_refl : (∀ d : D, ∀ n, d.flat n = true → eqD d d = true) := fun d n h => by
  rw [← eqv_py d d n n h h]
  exact SeqAt.eqv_refl _ (flat_lay d n h)
theorem eqAll_progs : ∀ ps qs : List (List Row), eqAll (ps.map prgX) (qs.map prgX) = decide (ps = qs)
  | [], [] => rfl
  | [], _ :: _ => rfl
  | _ :: _, [] => rfl
  | p :: ps, q :: qs => by
    show (eqD (prgX p) (prgX q) && eqAll (ps.map prgX) (qs.map prgX)) = _
    rw [eqD_prg, eqAll_progs ps qs]
    by_cases h : p = q
    · by_cases g : ps = qs
      · simp [h, g]
      · simp [h, g]
    · simp [h]
theorem progs_flat : ∀ ps : List (List Row), flatAll (ps.map prgX) 2 = true
  | [] => rfl
  | p :: ps => by
    show ((prgX p).flat 2 && flatAll (ps.map prgX) 2) = true
    rw [prg_flat, progs_flat ps]; rfl
/-- an equality that is asked -/
theorem dEqv_ok {d e : D} {q : Bool → Prop} {x : Str → Prop} (h : (d.flat 64 = true ∧ e.flat 64 = true) ∨ (d.scal = true ∧ e.scal = true)) (k : q (eqD d e)) : (dEqv d e).run q x := by
  show if (d.scal && e.scal) = true then q (eqD d e) else ((d.flat 64 = true ∧ e.flat 64 = true) ∧ q (eqD d e))
  by_cases c : (d.scal && e.scal) = true
  · rw [if_pos c]; exact k
  · rw [if_neg c]
    rcases h with h | h
    · exact ⟨h, k⟩
    · rw [h.1, h.2] at c; exact absurd rfl c
end NV

set_option Elab.async false
set_option linter.all false
set_option maxRecDepth 100000
set_option maxHeartbeats 4000000
/-! # reversed(a text) -/
namespace NV
open PySem PySem.Spec PyProof.Rows L2
open Evl (Ex)
theorem rs_norev : typeLookup (.type "str") "__reversed__" = pure none := by rw [typeLookup_type, builtinLookup_eq_fast]; kernel_rfl
theorem rs_get : typeLookup (.type "str") "__getitem__" = pure (some (.builtin "str.__getitem__")) := by rw [typeLookup_type, builtinLookup_eq_fast]; kernel_rfl
def rsO (v : Value) (i : Int) : Obj := { cls := .type "reversed", data := .fields #[v, rawInt i] }
/-- what walks v backwards, the next place i -/
def RsAt (h : Heap) (a : Addr) (v : Value) (i : Int) : Prop := ∃ o, h.get? a = some o ∧ o.cls = .type "reversed" ∧ o.data = .fields #[v, rawInt i]
theorem RsAt.stay {h h' : Heap} {a : Addr} {v : Value} {i : Int} (x : RsAt h a v i) (e : ∀ o, h.get? a = some o → h'.get? a = some o) : RsAt h' a v i := by
  obtain ⟨o, p, r⟩ := x
  exact ⟨o, e _ p, r⟩
section
variable {prog : Program} {w : World} {A : Around} {E : Value → Shared → Prop} {s : Shared}
theorem RsAt.ty {a : Addr} {v : Value} {i : Int} (x : RsAt s.heap a v i) : s.TypeIs (.ref a) "reversed" := by
  obtain ⟨o, p, c, _⟩ := x
  exact ⟨o, p, c⟩
theorem rs_code {z : Str} {t : Tok} {R : Value → Shared → Prop} (hz : ¬ (z.length : Int) ≥ 2 ^ 63)
    (h : R (.ref s.heap.objs.size) { s with heap := s.heap.push (rsO (.str z t) ((z.length : Int) - 1)), toks := s.toks + 1 + 1 }) :
    codeAny (model prog w) A (.call (.builtin "reversed.__new__") ⟨[.type "reversed", .str z t], []⟩) (wants R E) s := by
  have ty : s.TypeIs (.str z t) "str" := typeIs_str s z t
  refine codeAny_of_tree (show wpAny _ A.in1 (do checkBuiltinCall "reversed.__new__" ⟨[.type "reversed", .str z t], []⟩; again (.builtin "reversed.__new__" ⟨[.type "reversed", .str z t], []⟩)) _ _ s from ?_)
  refine wpAny_bind (wpAny_of_eq (F.newCall_reversed_1 _) (wpAny_pure ⟨plainId_quiet F.plain_reversed_new _, codeAny_builtin F.entry_reversed_new ?_⟩)); rw [Around.under_plainId F.plain_reversed_new _]
  unfold Builtin.«reversed.__new__»
  refine wpAny_bind (wpAny_of_eq (newClass_reversed _) (wpAny_bind (wpAny_of_eq (a := ()) (by first | rfl | kernel_rfl) (wpAny_bind (wpAny_of_eq (a := ()) (by first | rfl | kernel_rfl) ?_)))))
  refine wpAny_bind (wpAny_specialOf ty rs_norev ?_)
  try dsimp only
  refine wpAny_bind ?_; wp_delta
  refine wpAny_bind (wpAny_isInstance (T := "str") (U := "dict") (b := false) ty (by rw [isSubtype_type]; kernel_rfl) ?_)
  try dsimp only
  try rw [if_neg Bool.false_ne_true]
  try dsimp only
  refine wpAny_bind (wpAny_specialOf ty rs_get ?_)
  try dsimp only
  try rw [if_pos (by decide +kernel)]
  refine wpAny_pure ?_
  try dsimp only
  try rw [if_neg (by decide)]
  try dsimp only
  refine wpAny_bind (len_str hz (wpAny_bind (wpAny_of_eq (a := some ((z.length : Nat) : Int)) rfl ?_)))
  try dsimp only
  refine wpAny_bind ?_
  refine (show wpAny _ _ (newObj (.type "reversed") (.fields #[.str z t, rawInt ((z.length : Int) - 1)])) _ _ _ from wpAny_newObj_type ?_)
  exact wpAny_pure h
theorem rs_call {z : Str} {t : Tok} {Q : Value → Shared → Prop} (hz : ¬ (z.length : Int) ≥ 2 ^ 63)
    (h : Q (.ref s.heap.objs.size) { s with heap := s.heap.push (rsO (.str z t) ((z.length : Int) - 1)), toks := s.toks + 1 + 1 }) : wpAny (model prog w) A (call (.type "reversed") [.str z t]) Q E s := by
  refine callType_codes (Q₁ := fun u s1 => s1.TypeIs u "reversed" ∧ Q u s1) RT.called_rt (F.typeCall_reversed_1 _) F.entry_object_init (rs_code (A := A.in1) hz ⟨⟨_, Heap.get?_push_size _ rfl, rfl⟩, h⟩) fun u s1 g => ?_
  exact ⟨g.1, F.args_object_init_2 u _, object_init_meets RT.called_rt.init.lookup RT.called_rt.made (by decide) prog w A.in1 _ s1 ⟨g.1, rfl, g.2⟩⟩
theorem rs_item {it : Addr} {i : Nat} {z : Str} {t : Tok} {c : Nat} {Q : Option Value → Shared → Prop} (hit : RsAt s.heap it (.str z t) (i : Int)) (hc : z.cps[i]? = some c) (hz : z.length ≤ sizeLine)
    (hQ : ∀ h' tk tc, RsAt h' it (.str z t) ((i : Int) - 1) → Heap.SameBut it s.heap h' → Q (some (.str ⟨#[c]⟩ tc)) { s with heap := h', toks := tk }) : wpAny (model prog w) A (pyNext (.ref it)) Q E s := by
  obtain ⟨o, ho, hcl, hd⟩ := id hit
  have hi : i < z.length := (Array.getElem?_eq_some_iff.mp hc).1
  have ty : ∀ s : Shared, s.TypeIs (.str z t) "str" := fun s => typeIs_str s z t
  rw [sizeLine_eq] at hz
  unfold pyNext
  refine wpAny_bind (wpAny_attempt (wpAny_callSpecial?_slot (name := Str.ofString "__next__") hit.ty RT.slot_rt_next (wpAny_call_entry RT.slot_rt_next hit.ty RT.entry_rt_next ?_ (RT.args_rt_next _))))
  unfold Builtin.«reversed.__next__»
  refine wpAny_bind (wpAny_of_eq (a := (Value.ref it, [])) rfl ?_)
  try dsimp only
  refine wpAny_bind (wpAny_field ho hd (x := .str z t) rfl ?_)
  try dsimp only
  refine wpAny_bind (wpAny_field ho hd (x := rawInt (i : Int)) rfl ?_)
  refine (show wpAny _ _ (if (i : Int) < 0 then _ else _) _ _ s from ?_)
  rw [if_neg (by omega)]
  try dsimp only
  refine wpAny_bind (wpAny_specialOf (ty _) rs_get ?_)
  try dsimp only
  try rw [if_neg (by decide)]
  try dsimp only
  refine wpAny_bind (wpAny_mkInt (wpAny_bind (wpAny_attempt ?_)))
  have sx : seqIndex? (i : Int) z.length = some i := seqIndex_of (by omega) (by omega)
  refine getItem_str (c := c) (by rw [decide_eq_false (by omega), decide_eq_false (by omega)]; rfl) (by rw [sx]; exact hc) ?_
  try dsimp only
  refine wpAny_bind (wpAny_field ho hd (x := rawInt (i : Int)) rfl ?_)
  try dsimp only
  refine wpAny_bind (wpAny_setField ho hd (by simp) ?_)
  first
  | refine wpAny_pure ⟨_, rfl, wpAny_pure (hQ _ _ _ ?_ (Heap.SameBut.update ..))⟩
  | refine wpAny_bind (wpAny_pure (wpAny_pure ⟨_, rfl, wpAny_pure (hQ _ _ _ ?_ (Heap.SameBut.update ..))⟩))
  refine ⟨_, Heap.get?_update_self _ ho (Obj.isFreed_of_fields (Obj.data_mapFields hd _)), (Obj.cls_mapFields ..).trans hcl, ?_⟩
  rw [Obj.data_mapFields hd]; simp
theorem rs_end {it : Addr} {v : Value} {Q : Option Value → Shared → Prop} (hh : A.handled = none) (hit : RsAt s.heap it v (-1))
    (hQ : ∀ h', Heap.ExtBut it s.heap h' → Q none { s with heap := h' }) : wpAny (model prog w) A (pyNext (.ref it)) Q E s := by
  obtain ⟨o, ho, hcl, hd⟩ := id hit
  unfold pyNext
  refine wpAny_bind (wpAny_attempt (wpAny_callSpecial?_slot (name := Str.ofString "__next__") hit.ty RT.slot_rt_next (wpAny_call_entry RT.slot_rt_next hit.ty RT.entry_rt_next ?_ (RT.args_rt_next _))))
  unfold Builtin.«reversed.__next__»
  refine wpAny_bind (wpAny_of_eq (a := (Value.ref it, [])) rfl ?_)
  try dsimp only
  refine wpAny_bind (wpAny_field ho hd (x := v) rfl ?_)
  try dsimp only
  refine wpAny_bind (wpAny_field ho hd (x := rawInt (-1)) rfl ?_)
  refine (show wpAny _ _ (if (-1 : Int) < 0 then _ else _) _ _ s from ?_)
  rw [if_pos (by decide)]
  try dsimp only
  refine wpAny_bind (wpAny_rule (wpAny_bind ?_)); wp_delta
  refine wpAny_bind (wpAny_setField ho hd (by simp) ?_)
  have ho2 := Heap.get?_update_self (Obj.mapFields (·.setIfInBounds 1 (rawInt (-1)))) ho (Obj.isFreed_of_fields (Obj.data_mapFields hd _))
  refine wpAny_setField (s := { s with heap := s.heap.update it (Obj.mapFields (·.setIfInBounds 1 (rawInt (-1)))) }) ho2 (Obj.data_mapFields hd _) (by simp) ?_
  try dsimp only
  first
  | refine (show wpAny _ _ (newExc (.type "StopIteration") [] >>= _) _ _ _ from ?_)
  | (refine wpAny_bind ?_; refine (show wpAny _ _ (newExc (.type "StopIteration") [] >>= _) _ _ _ from ?_))
  | (refine wpAny_bind ?_; wp_delta; refine (show wpAny _ _ (newExc (.type "StopIteration") [] >>= _) _ _ _ from ?_))
  refine wpAny_bind ?_
  simp only [newExc, newTuple]
  refine wpAny_bind (wpAny_newObj_type ?_ (by size_fits))
  refine wpAny_bind (m := firstArgMember _ _) (wpAny_of_eq (a := Value.none) (by first | rfl | (simp only [firstArgMember]; rfl)) (wpAny_newObj_type ?_ (by size_fits)))
  simp only [raiseNew]
  refine wpAny_bind (wpAny_handled ?_)
  first | rw [show A.in1.handled = none from hh] | rw [hh]
  (refine wpAny_bind (wpAny_pure (wpAny_throw ?_)); refine wpAny_bind (wpAny_isInstance (T := "StopIteration") (b := true) ⟨_, Heap.get?_push_size _ rfl, rfl⟩ isSubtype_stop ?_); refine wpAny_pure (hQ _ ?_))
  refine ((?_ : Heap.ExtBut it s.heap ((s.heap.update it (Obj.mapFields (·.setIfInBounds 1 (rawInt (-1))))).update it (Obj.mapFields (·.setIfInBounds 0 Value.none)))).push _).push _
  exact fun b ob hb q => ((Heap.get?_update_other _ _ (Ne.symm hb)).trans (Heap.get?_update_other _ _ (Ne.symm hb))).trans q
theorem rs_iter {it : Addr} {v : Value} {i : Int} {Q : Value → Shared → Prop} (hit : RsAt s.heap it v i) (h : Q (.ref it) s) : wpAny (model prog w) A (pyIter (.ref it)) Q E s := by
  refine wpAny_pyIter_slot hit.ty RT.slot_rt_iter (wpAny_call_entry RT.slot_rt_iter hit.ty RT.entry_rt_iter ?_ (RT.args_rt_iter _))
  refine (show wpAny _ _ (ret (.ref it)) _ _ s from wpAny_pure ⟨_, rfl, "reversed", _, hit.ty, RT.slot_rt_next.lookup, h⟩)
end
/-- a text's signs from behind -/
def ItvS (z : Str) : It := ⟨fun i _ => i < z.length, fun i H v H' => H' = H ∧ ∃ c, z.cps[z.length - 1 - i]? = some c ∧ v = .str ⟨#[c]⟩, fun i _ => z.length ≤ i⟩
theorem turn_rs {P : Program} {w : World} {K : PySem.W.Frag} {tg : Expr} (z : Str) (t : Tok) (it : Addr) (hz : z.length ≤ sizeLine) : Turn P w K tg (ItvS z) [it] it (fun i h => i ≤ z.length ∧ RsAt h it (.str z t) ((z.length : Int) - 1 - (i : Nat))) where
  mem := by simp
  obj := fun i h st b hb => by
    obtain rfl : b = it := by simpa using hb
    obtain ⟨_, o, e, c, d⟩ := st
    exact ⟨o, e, fun v q => by rw [d] at q; cases q⟩
  keep := fun i h h' st k => ⟨st.1, st.2.stay fun o e => k it (by simp) o e⟩
  item := by
    intro Y eP ew eK calm i pins s σ H E I own0 st hg; subst eP ew eK
    have hin : i < z.length := hg
    obtain ⟨g0, g1, g2, g3, g4, g5⟩ := own0 it (by simp)
    obtain ⟨_, hit⟩ := st
    have e1 : (z.length : Int) - 1 - ((i : Nat) : Int) = ((z.length - 1 - i : Nat) : Int) := by omega
    rw [e1] at hit
    have hlt : z.length - 1 - i < z.cps.size := by show z.length - 1 - i < z.length; omega
    refine rs_item hit (Array.getElem?_eq_getElem hlt) hz fun h' tk tc st' sb => ?_
    have e2 : ((z.length - 1 - i : Nat) : Int) - 1 = (z.length : Int) - 1 - ((i + 1 : Nat) : Int) := by omega
    rw [e2] at st'
    have I1 : Inv Y pins σ H { s with heap := h', toks := tk } := I.turned (t' := tk) (fun b o hb e => (sb.2 b hb).trans e) g0 g1 g3 g4 g5
    obtain ⟨o, e, c, d⟩ := id st'
    exact ⟨_, rfl, go_of (s := { s with heap := h', toks := tk }) e c d (by decide) ⟨.str ⟨#[z.cps[z.length - 1 - i]]⟩, H, I1, ⟨_, rfl⟩, ⟨rfl, _, Array.getElem?_eq_getElem hlt, rfl⟩, ⟨hin, st'⟩, fun b hb => (own0 b hb).1⟩⟩
  done := by
    intro Y eP ew eK calm i pins s σ H E I own0 st hg; subst eP ew eK
    obtain ⟨g0, g1, g2, g3, g4, g5⟩ := own0 it (by simp)
    obtain ⟨hin, hit⟩ := st
    have hge : z.length ≤ i := hg
    rw [show (z.length : Int) - 1 - ((i : Nat) : Int) = -1 by omega] at hit
    exact rs_end (I.ok.hd calm) hit fun h' eb => ⟨rfl, I.turned (t' := s.toks) (fun b o hb e => eb b o hb e) g0 g1 g3 g4 g5⟩
  self := fun A i s Q E st h => rs_iter st.2 h
/-- reversed(x): a text, a list, a tuple -/
def iRevU (K : PySem.W.Frag) (te : TE) : TI := fun σ H R => te σ H fun v H1 => match v with
  | .str z => z.length ≤ sizeLine ∧ R (ItvS z) H1
  | .ref a => ∃ xs : List V, (SqL K H1 a xs ∧ R (Itv K a xs.length) H1) ∨ (SqT K H1 a xs ∧ R (RT.ItvT K a xs.length) H1)
  | _ => False
section
variable {X : Cx} {tg : Expr}
theorem pi_revU {K : PySem.W.Frag} {e : Expr} {te : TE} {p pos : Pos} (hg : Gl X "reversed") (hm : X.mg "reversed" = none) (he : PE X e te) (hK : X.K = K := by rfl) (hs : starEach [e] X.env = (false, eval e X.env) :: starEach [] X.env := by rfl) : PI X tg (.Call (.Name "reversed" p) [e] [] pos) (iRevU K te) := by
  subst hK
  refine ⟨fun pins s σ H R I h => Call_ (ld_blt I hg hm PyProof.Rows.boot_reversed (PyProof.Rows.callWith_type1 (args_cons (thn (he.run pins s σ H _ I h) fun u s1 ⟨v, H1, I1, r1, q1⟩ => args_nil ?_) hs) hs rfl))⟩
  have hn := line63
  cases v with
  | str z =>
    obtain ⟨t, rfl⟩ := r1
    obtain ⟨hz, q⟩ := q1
    refine rs_call (by omega) (rs_iter (v := .str z t) (i := (z.length : Int) - 1) ⟨_, Heap.get?_push_size _ rfl, rfl, rfl⟩ ?_)
    refine pi_one (tk := s1.toks + 1 + 1) I1 _ (turn_rs z t _ hz) ⟨Nat.zero_le _, ?_⟩ q
    rw [show (z.length : Int) - 1 - ((0 : Nat) : Int) = (z.length : Int) - 1 by omega]
    exact ⟨_, Heap.get?_push_size _ rfl, rfl, rfl⟩
  | ref a =>
    obtain rfl : u = Value.ref a := r1
    obtain ⟨xs, ⟨hq, q⟩ | ⟨hq, q⟩⟩ := q1
    · obtain ⟨its, rv, p', hz⟩ := I1.list hq
      have hl := rv.length
      refine call_reversed_list p'.isList (wpAny_pyIter_revIter (l := a) (i := ((its.toArray.size : Nat) : Int) - 1) ⟨_, Heap.get?_push_size _ rfl, rfl, rfl⟩ (pi_one (tk := s1.toks) I1 _ (turn_rev a _ xs.length) ⟨Nat.zero_le _, ?_⟩ q))
      rw [← (show ((its.toArray.size : Nat) : Int) - 1 = (xs.length : Int) - 1 - ((0 : Nat) : Int) by simp only [List.size_toArray]; omega)]
      exact ⟨_, Heap.get?_push_size _ rfl, rfl, rfl⟩
    · obtain ⟨its, rv, p', hz⟩ := I1.tuple hq
      have hl := rv.length
      refine RT.call_reversed_tup p' (fun A E Q k => len_tuple p' (by simp only [List.size_toArray] <;> omega) k) (RT.iter_rt (t := a) (i := ((its.toArray.size : Nat) : Int) - 1) ⟨_, Heap.get?_push_size _ rfl, rfl, rfl⟩ (pi_one (tk := s1.toks + 1 + 1) I1 _ (RT.turn_rt a _ xs.length) ⟨Nat.zero_le _, ?_⟩ q))
      rw [← (show ((its.toArray.size : Nat) : Int) - 1 = (xs.length : Int) - 1 - ((0 : Nat) : Int) by simp only [List.size_toArray]; omega)]
      exact ⟨_, Heap.get?_push_size _ rfl, rfl, rfl⟩
  | _ => exact q1.elim
end
/-! over plain data -/
def revU : D → W (List D)
  | .str l => .chk (l.length ≤ 16777216) (.ok ((l.map fun c => D.str [c]).reverse))
  | .lst ds => .ok ds.reverse
  | .tup ds => .ok ds.reverse
  | _ => .stuck
def fRevU (fe : Env → W D) : Env → W (List D) := fun ρ => (fe ρ).bind revU
section
variable {K : PySem.W.Frag} {mg : Str → Option Value} {Eo : XK} {own : List Nat}
theorem itvs_core {l : List Nat} {H' : Hp} {M' : Addr → Prop} : (∀ (i : Nat) (d : D), (l.map fun c => D.str [c]).reverse[i]? = some d → (ItvS (S l)).go i H' ∧ ∀ x H2, (ItvS (S l)).yld i H' x H2 → Ex H' H2 ∧ Dx K M' H2 d x) ∧ (∀ i, (l.map fun c => D.str [c]).reverse.length ≤ i → (ItvS (S l)).stop i H') := by
  refine ⟨fun i d hd => ?_, fun i hi => ?_⟩
  · obtain ⟨hi, hd⟩ := revD_get hd
    rw [List.length_map] at hi hd
    rw [List.getElem?_map] at hd
    cases q : l[l.length - 1 - i]? with
    | none => rw [q] at hd; cases hd
    | some c =>
      rw [q] at hd
      cases hd
      refine ⟨hi, ?_⟩
      rintro x H2 ⟨rfl, c', hc, rfl⟩
      have e : (S l).cps[(S l).length - 1 - i]? = l[l.length - 1 - i]? := List.getElem?_toArray
      rw [e, q] at hc
      cases hc
      exact ⟨Evl.Ex.refl _, rfl⟩
  · rw [List.length_reverse, List.length_map] at hi
    exact hi
theorem pdi_revU {st : Bool} {te : TE} {fe : Env → W D} (h : PD K mg Eo own .v te fe) : PDI K mg Eo own st (iRevU K te) (fRevU fe) := fun M ρ σ H R mk E r =>
  h M ρ σ H _ mk E ((fe ρ).mono (fun x p v H1 e1 r1 => by
    match x, p, r1 with
    | .str l, p, q =>
      cases q
      exact ⟨p.1, p.2 _ _ e1 ⟨fun _ _ _ _ => itvs_core, fun _ _ _ _ _ => itvs_core⟩⟩
    | .lst ds, p, ⟨a, xs, q1, q2, q3, q4⟩ =>
      cases q1
      exact ⟨xs, .inl ⟨.of q3, p _ _ e1 (srv_v q3 q4 fun _ => q2)⟩⟩
    | .tup ds, p, ⟨a, xs, q1, q3, q4⟩ =>
      cases q1
      exact ⟨xs, .inr ⟨q3, p _ _ e1 (srv_vt q3 q4)⟩⟩) (fun _ z => z) r)
end
end NV

set_option Elab.async false
set_option linter.all false
set_option maxRecDepth 100000
set_option maxHeartbeats 4000000
/-! # own classes: fields, methods, instances -/
namespace NV
open PySem PySem.Spec PyProof.Rows L2
open Evl (Ex)
/-- a class of the top; names that it does not bear -/
def ClsI (K : PySem.W.Frag) (mg : Str → Option Value) (x : Str) (fs : List Str) : Prop := ∃ C, mg x = some (.ref C) ∧ Cls K C ∧ ∀ f ∈ fs, NoAttr K C f
def MthF (K : PySem.W.Frag) (mg : Str → Option Value) (x m qual : Str) (st : Stmt) (ps : List Str) : Prop := ∃ C f fd, mg x = some (.ref C) ∧ Meth K C m f ∧ Fun K m qual st f fd ∧ Binds K fd ps []
def IniF (K : PySem.W.Frag) (mg : Str → Option Value) (x qual : Str) (st : Stmt) (ps : List Str) : Prop := ∃ C f fd, mg x = some (.ref C) ∧ L2.Mk K C f ∧ Fun K "__init__" qual st f fd ∧ Binds K fd ps []
def CalM (P : Program) (w : World) (K : PySem.W.Frag) (mg : Str → Option Value) (base : Heap) (CX : CXT) (k : Nat) (x m : Str) (ps : List Str) (sp : Sp) : Prop :=
  ∃ C f fd, mg x = some (.ref C) ∧ Cls K C ∧ Meth K C m f ∧ Binds K fd ps [] ∧ FnOk P w K mg base CX k f fd ps sp
def CalI (P : Program) (w : World) (K : PySem.W.Frag) (mg : Str → Option Value) (base : Heap) (CX : CXT) (k : Nat) (x : Str) (ps : List Str) (sp : Sp) : Prop :=
  ∃ C f fd, mg x = some (.ref C) ∧ Cls K C ∧ L2.Mk K C f ∧ Binds K fd ps [] ∧ FnOk P w K mg base CX k f fd ps sp
section
variable {P : Program} {w : World} {K : PySem.W.Frag} {mg : Str → Option Value} {base : Heap}
theorem MthF.ok {x m qual : Str} {st : Stmt} {N ps fs : List Str} {k : Nat} {sp : Sp} (I : ClsI K mg x fs) (F : MthF K mg x m qual st ps) (S : FnScope N ps (defScope st)) (len : ∀ vs H Q E, sp vs H Q E → vs.length = ps.length)
    (hbody : ∀ (f : Addr) (cdv : Value) (A : Around) (outer : List PySem.Env) (s : Shared) (H : Hp) (vs : List V) (Q : VK) (E : XK), Room k (A.deeper (envOfC qual (defScope st) s.heap.objs.size f cdv)) → sp vs H Q E →
      ∃ t, PSs (cxOf CX0 P w K mg base N qual (defScope st) f cdv A outer s H E).nox (defBody st) t ∧ t { nx := fun _ H' => Q .non H', rt := Q } (start N vs) H) : CalM P w K mg base CX0 (k + 1) x m ps sp := by
  obtain ⟨C, f, fd, hm, M, F, b⟩ := F
  obtain ⟨C', hm', c, _⟩ := I
  rw [hm] at hm'; cases hm'
  exact ⟨C, f, fd, hm, c, M, b, F.ok S len fun cdv A outer s H vs Q E hr h => hbody f cdv A outer s H vs Q E hr h⟩
theorem MthF.okX {x m qual : Str} {st : Stmt} {N ps fs : List Str} {k : Nat} {sp : Sp} (I : ClsI K mg x fs) (F : MthF K mg x m qual st ps) (S : FnScope N ps (defScope st)) (len : ∀ vs H Q E, sp vs H Q E → vs.length = ps.length)
    (hbody : ∀ (f : Addr) (cdv : Value) (A : Around) (outer : List PySem.Env) (s : Shared) (H : Hp) (vs : List V) (Q : VK) (E : XK), Room k (A.deeper (envOfC qual (defScope st) s.heap.objs.size f cdv)) → sp vs H Q E →
      ∃ t, PSs (cxOf (L2.CX P w) P w K mg base N qual (defScope st) f cdv A outer s H E) (defBody st) t ∧ t { nx := fun _ H' => Q .non H', rt := Q } (start N vs) H) : CalM P w K mg base (L2.CX P w) (k + 1) x m ps sp := by
  obtain ⟨C, f, fd, hm, M, F, b⟩ := F
  obtain ⟨C', hm', c, _⟩ := I
  rw [hm] at hm'; cases hm'
  exact ⟨C, f, fd, hm, c, M, b, F.okX S len fun cdv A outer s H vs Q E hr h => hbody f cdv A outer s H vs Q E hr h⟩
theorem IniF.ok {x qual : Str} {st : Stmt} {N ps fs : List Str} {k : Nat} {sp : Sp} (I : ClsI K mg x fs) (F : IniF K mg x qual st ps) (S : FnScope N ps (defScope st)) (len : ∀ vs H Q E, sp vs H Q E → vs.length = ps.length)
    (hbody : ∀ (f : Addr) (cdv : Value) (A : Around) (outer : List PySem.Env) (s : Shared) (H : Hp) (vs : List V) (Q : VK) (E : XK), Room k (A.deeper (envOfC qual (defScope st) s.heap.objs.size f cdv)) → sp vs H Q E →
      ∃ t, PSs (cxOf CX0 P w K mg base N qual (defScope st) f cdv A outer s H E).nox (defBody st) t ∧ t { nx := fun _ H' => Q .non H', rt := Q } (start N vs) H) : CalI P w K mg base CX0 (k + 1) x ps sp := by
  obtain ⟨C, f, fd, hm, M, F, b⟩ := F
  obtain ⟨C', hm', c, _⟩ := I
  rw [hm] at hm'; cases hm'
  exact ⟨C, f, fd, hm, c, M, b, F.ok S len fun cdv A outer s H vs Q E hr h => hbody f cdv A outer s H vs Q E hr h⟩
theorem cls_mk {h : Heap} (X : K.In h) (G : h.Ns mainGlobals mg) {x : Str} {fs : List Str} {C : Addr} (a : PySem.W.nsIn K mainGlobals x = some (some (.ref C))) (pg : PySem.W.plainGet K C Str.empty = true) (hd : PySem.W.hasDictIn K C = true) (po : PySem.W.plainOver K C = true)
    (sa : PySem.W.findIn K (.ref C) "__setattr__" = some (some (.builtin "object.__setattr__"))) (n : ∀ f ∈ fs, PySem.W.findIn K (.ref C) f = some none) : ClsI K mg x fs := ⟨C, PySem.W.mg_of X G a, ⟨pg, hd, po, sa⟩, n⟩
theorem mth_mk {h : Heap} (X : K.In h) (G : h.Ns mainGlobals mg) {x m qual : Str} {st : Stmt} {ps : List Str} {C f : Addr} {oc : Value} {od an : Option Addr} {osl : Array (Option Value)} {kV doc pm cdv ct : Value} (a : PySem.W.nsIn K mainGlobals x = some (some (.ref C)))
    (at_ : PySem.W.findIn K (.ref C) m = some (some (.ref f))) (fn : PySem.W.isFn K (.ref f) = true) (l : K.lookup f = some ⟨oc, od, .func (PySem.W.fnOf m qual (defArgs st) (defBody st) (defScope st) .none kV doc pm an cdv ct), osl⟩) (c : PySem.W.codeIn K cdv qual = true) (k : PySem.W.keepIn K (.ref f) = true)
    (b : ∀ (kV doc pm : Value) (an : Option Addr) (cdv ct : Value) (us : List Value), us.length = ps.length → bindArgs (PySem.W.fnOf m qual (defArgs st) (defBody st) (defScope st) .none kV doc pm an cdv ct) ⟨us, []⟩ = pure (ps.zip us)) : MthF K mg x m qual st ps :=
  ⟨C, f, _, PySem.W.mg_of X G a, ⟨at_, fn, k⟩, L2.fun_mk l c k, (L2.fun_mk l c k).binds b⟩
theorem ini_mk {h : Heap} (X : K.In h) (G : h.Ns mainGlobals mg) {x qual : Str} {st : Stmt} {ps : List Str} {C f : Addr} {oc : Value} {od an : Option Addr} {osl : Array (Option Value)} {kV doc pm cdv ct : Value} (a : PySem.W.nsIn K mainGlobals x = some (some (.ref C)))
    (mk : PySem.W.makesIn K C = true) (kc : PySem.W.keepIn K (.ref C) = true) (at_ : PySem.W.findIn K (.ref C) "__init__" = some (some (.ref f))) (fn : PySem.W.isFn K (.ref f) = true) (l : K.lookup f = some ⟨oc, od, .func (PySem.W.fnOf "__init__" qual (defArgs st) (defBody st) (defScope st) .none kV doc pm an cdv ct), osl⟩) (c : PySem.W.codeIn K cdv qual = true) (k : PySem.W.keepIn K (.ref f) = true)
    (b : ∀ (kV doc pm : Value) (an : Option Addr) (cdv ct : Value) (us : List Value), us.length = ps.length → bindArgs (PySem.W.fnOf "__init__" qual (defArgs st) (defBody st) (defScope st) .none kV doc pm an cdv ct) ⟨us, []⟩ = pure (ps.zip us)) : IniF K mg x qual st ps :=
  ⟨C, f, _, PySem.W.mg_of X G a, ⟨mk, at_, fn, kc⟩, L2.fun_mk l c k, (L2.fun_mk l c k).binds b⟩
end
section
variable {X : Cx} {CX : CXT} {k : Nat} {ps fs : List Str} {sp : Sp} {E : XK} {x m f : Str} {p pos apos pos' tpos : Pos} {e o value : Expr} {es : List Expr} {ta tv : TE} {t : TA}
/-- o.f -/
def mFld (mg : Str → Option Value) (x : Str) (ta : TE) (f : Str) : TE := fun σ H Q => ta σ H fun v H1 => ∃ a C dx fs u, v = .ref a ∧ mg x = some (.ref C) ∧ H1 a = some (.ins C dx fs) ∧ fs.lookup f = some u ∧ Q u H1
theorem nFld (c : ClsI X.K X.mg x fs) (hf : decide (f ∈ fs) = true) (he : PE X e ta) (hb : attributeBase e f X.env (eval e X.env) = eval e X.env) : PE X (.Attribute e f pos) (mFld X.mg x ta f) := by
  obtain ⟨C, g, c, n⟩ := c
  refine ⟨fun pins s σ H Q I h => attr_of hb (thn (he.run pins s σ H _ I h) fun u s1 ⟨v, H1, I1, rx, a, C', dx, gs, y, ex, eg, ea, l, q⟩ => ?_)⟩
  subst ex
  rw [g] at eg; cases eg
  obtain rfl : u = Value.ref a := rx
  exact getattr_ok I1 ea c (n f (of_decide_eq_true hf)) l fun u' s2 I2 ru => ⟨y, H1, I2, ru, q⟩
/-- o.f = e -/
def mFldS (mg : Str → Option Value) (x : Str) (ta tv : TE) (f : Str) : TS := fun D σ H => tv σ H fun y H1 => ta σ H1 fun v H2 => ∃ a C dx fs, v = .ref a ∧ mg x = some (.ref C) ∧ H2 a = some (.ins C dx fs) ∧ fs.length < 1000 ∧ D.nx σ (upd H2 a (.ins C dx (putF f y fs)))
theorem nFldS (c : ClsI X.K X.mg x fs) (hf : decide (f ∈ fs) = true) (ha : PE X o ta) (hv : PE X value tv) (hs : swapsWith value (some (.Attribute o f pos')) pos.line X.env = pure false) : PS X (.Assign [.Attribute o f pos'] value pos) (mFldS X.mg x ta tv f) := by
  obtain ⟨C, g, c, n⟩ := c
  refine ⟨fun pins s σ H D I h => plainObj_wpAny_Assign_Attribute (thn (hv.run pins s σ H _ I h) fun u s1 ⟨y, H1, I1, ry, q⟩ => thn (ha.run pins s1 σ H1 _ I1 q) fun ov s2 ⟨v, H2, I2, rx, a, C', dx, gs, ex, eg, ea, l, q2⟩ => ?_) hs⟩
  subst ex
  rw [g] at eg; cases eg
  obtain rfl : ov = Value.ref a := rx
  exact setattr_ok I2 ea c (n f (of_decide_eq_true hf)) l ry fun s3 I3 => ⟨σ, _, I3, q2⟩
/-- o.f op= e -/
def mFldA (mg : Str → Option Value) (x : Str) (ta tv : TE) (rd : V → V → Hp → VK → Prop) (f : Str) : TS := fun D σ H => ta σ H fun v H1 => ∃ a C dx fs y, v = .ref a ∧ mg x = some (.ref C) ∧ H1 a = some (.ins C dx fs) ∧ fs.lookup f = some y ∧ tv σ H1 fun z H2 => rd y z H2 fun u H3 => ∃ dx' fs', H3 a = some (.ins C dx' fs') ∧ fs'.length < 1000 ∧ D.nx σ (upd H3 a (.ins C dx' (putF f u fs')))
theorem nFldA {op : Operator} {rd : V → V → Hp → VK → Prop} (c : ClsI X.K X.mg x fs) (hf : decide (f ∈ fs) = true) (ha : PE X o ta) (hv : PE X value tv) (hop : InOp X op rd) : PS X (.AugAssign (.Attribute o f tpos) op value pos) (mFldA X.mg x ta tv rd f) := by
  obtain ⟨C, g, c, n⟩ := c
  have n := n f (of_decide_eq_true hf)
  refine ⟨fun pins s σ H D I h => wpAny_AugAssign_AttributeAny (thn (ha.run pins s σ H _ I h) fun ov s1 ⟨v, H1, I1, rx, a, C', dx, gs, y, ex, eg, ea, l, q⟩ => ?_)⟩
  subst ex
  rw [g] at eg; cases eg
  obtain rfl : ov = Value.ref a := rx
  refine getattr_ok I1 ea c n l fun u s2 I2 ru => thn (hv.run pins s2 σ H1 _ I2 q) fun w3 s3 ⟨z, H2, I3, ry, q3⟩ => thn (hop pins s3 σ H2 y z u w3 _ I3 ru ry q3) fun w4 s4 ⟨z', H3, I4, rz, dx', gs', ea', l', q4⟩ => ?_
  exact setattr_ok I4 ea' c n l' rz fun s5 I5 => ⟨σ, _, I5, q4⟩
/-- o.m(..) -/
def mMth (mg : Str → Option Value) (x m : Str) (sp : Sp) (E : XK) (ta : TE) (t : TA) : TE := fun σ H Q => ta σ H fun v H1 => ∃ a C dx fs, v = .ref a ∧ mg x = some (.ref C) ∧ H1 a = some (.ins C dx fs) ∧ fs.lookup m = none ∧ t σ H1 fun vs H2 => sp (v :: vs) H2 Q E
theorem nMth0 {pl : Sem Bool} (C : CalM X.prog X.w X.K X.mg X.base CX k x m ps sp) (hr : Room k X.A) (hx : Passes CX X E) (he : PE X o ta)
    (ht : eval (.Call (.Attribute o m apos) [] [] pos) X.env = (do let ov ← eval o X.env; standAt apos.atName; let (f, first) ← holding [ov] (getMethod ov m pl); callWith pos f first (backTo pos (starEach [] X.env)) (backToKw pos (keywordEach [] X.env))) := by rfl) :
    PE X (.Call (.Attribute o m apos) [] [] pos) (mMth X.mg x m sp E ta tNil) := by
  obtain ⟨C, f, fd, g, c, M, b, F⟩ := C
  refine ⟨fun pins s σ H Q I h => PySem.W.methodCall_KW (pl := pl) (thn (he.run pins s σ H _ I h) fun u s1 ⟨v, H1, I1, rx, a, C', dx, fs, ex, eg, ea, l, q⟩ => ?_) ht⟩
  rw [g] at eg; cases eg
  subst ex
  obtain rfl : u = Value.ref a := rx
  exact getmeth_ok I1 ea c M l (PySem.W.callWith_K0 (first := [.ref a]) I1.kIn M.kp (run_fn (us := [.ref a]) (vs := [.ref a]) F hr b .nil hx I1 (.cons rfl .nil) q))
theorem nMth {pl : Sem Bool} (C : CalM X.prog X.w X.K X.mg X.base CX k x m ps sp) (hr : Room k X.A) (hx : Passes CX X E) (he : PE X o ta) (ha : PA X (e :: es) t)
    (hst : starEach (e :: es) X.env = (false, eval e X.env) :: starEach es X.env := by rfl) (hpl : (backTo pos (starEach es X.env)).any (·.1) = false := by rfl)
    (ht : eval (.Call (.Attribute o m apos) (e :: es) [] pos) X.env = (do let ov ← eval o X.env; standAt apos.atName; let (f, first) ← holding [ov] (getMethod ov m pl); callWith pos f first (backTo pos (starEach (e :: es) X.env)) (backToKw pos (keywordEach [] X.env))) := by rfl) :
    PE X (.Call (.Attribute o m apos) (e :: es) [] pos) (mMth X.mg x m sp E ta t) := by
  obtain ⟨C, f, fd, g, c, M, b, F⟩ := C
  refine ⟨fun pins s σ H Q I h => PySem.W.methodCall_KW (pl := pl) (thn (he.run pins s σ H _ I h) fun u s1 ⟨v, H1, I1, rx, a, C', dx, fs, ex, eg, ea, l, q⟩ => ?_) ht⟩
  rw [g] at eg; cases eg
  subst ex
  obtain rfl : u = Value.ref a := rx
  refine getmeth_ok I1 ea c M l (PySem.W.callWith_K (first := [.ref a]) (h₀ := X.base) I.ok.mod.kin M.kp (thn (ha.run pos pins s1 σ H1 _ I1 q) fun us s2 ⟨vs, H2, I2, r, q2⟩ => ⟨I2.kIn, ?_⟩) hst hpl)
  exact run_fn (us := .ref a :: us) (vs := .ref a :: vs) F hr b .nil hx I2 (.cons rfl r) (by rw [List.append_nil]; exact q2)
/-- C(..) -/
def mMake (mg : Str → Option Value) (x : Str) (sp : Sp) (E : XK) (t : TA) : TE := fun σ H Q => t σ H fun vs H1 => ∀ C p dx, mg x = some (.ref C) → H1 p = none → H1 dx = none → dx ≠ p → sp (.ref p :: vs) (upd (upd H1 dx (.own p)) p (.ins C dx [])) (fun v H2 => v = .non ∧ Q (.ref p) H2) E
theorem nMake (C : CalI X.prog X.w X.K X.mg X.base CX k x ps sp) (hr : Room (k + 1) X.A) (hx : Passes CX X E) (ha : PA X (e :: es) t) (hg : Gl X x := by rfl) (hdb : (x == ("__debug__" : Str)) = false := by decide)
    (he : starEach (e :: es) X.env = (false, eval e X.env) :: starEach es X.env := by rfl) (hpl : (backTo pos (starEach es X.env)).any (·.1) = false := by rfl) : PE X (.Call (.Name x p) (e :: es) [] pos) (mMake X.mg x sp E t) := by
  obtain ⟨C, f, fd, g, c, M, b, F⟩ := C
  refine ⟨fun pins s σ H Q I h => wpAny_Call_Name_kw (ld_glob I hg g ?_ hdb)⟩
  refine PySem.W.callWith_K (h₀ := X.base) I.ok.mod.kin M.kp (thn (ha.run pos pins s σ H _ I h) fun us s1 ⟨vs, H1, I1, r, q⟩ => ⟨I1.kIn, ?_⟩) he hpl
  exact run_make M F hr b .nil hx I1 r fun x dx n1 n2 ne => by rw [List.append_nil]; exact q C x dx g n1 n2 ne
theorem nMake0 (C : CalI X.prog X.w X.K X.mg X.base CX k x ps sp) (hr : Room (k + 1) X.A) (hx : Passes CX X E) (hg : Gl X x := by rfl) (hdb : (x == ("__debug__" : Str)) = false := by decide) : PE X (.Call (.Name x p) [] [] pos) (mMake X.mg x sp E tNil) := by
  obtain ⟨C, f, fd, g, c, M, b, F⟩ := C
  exact ⟨fun pins s σ H Q I h => (pe_make0 M F hr hg g b .nil hx hdb).run pins s σ H Q I fun x dx n1 n2 ne => h C x dx g n1 n2 ne⟩
end
end NV

set_option Elab.async false
set_option linter.all false
set_option maxRecDepth 100000
set_option maxHeartbeats 4000000
/-! # loops over plain data; the machine -/
namespace NV
open PySem PySem.Spec PyProof.Rows L2
open Evl (Ex)
/-- what is wanted behind a turn -/
def Turn1 (q : Out → Prop) (I : Env → Prop) : Out → Prop
  | .nx ρ => I ρ
  | .ct ρ => I ρ
  | .bk ρ => q (.nx ρ)
  | .rt d ρ => q (.rt d ρ)
theorem forGo_inv {fg : D → Env → W Env} {fb : Env → W Out} {q : Out → Prop} {e : Str → Prop} {ds : List D} {ρ : Env} (I : Nat → Env → Prop) (h0 : I 0 ρ)
    (step : ∀ (i : Nat) d ρ, ds[i]? = some d → I i ρ → (fg d ρ).run (fun ρ1 => (fb ρ1).run (Turn1 q (I (i + 1))) e) e) (hd : ∀ ρ, I ds.length ρ → q (.nx ρ)) : (forGo fg fb ds ρ).run q e := by
  have key : ∀ (n i : Nat) ρ, i + n = ds.length → I i ρ → (forGo fg fb (ds.drop i) ρ).run q e := by
    intro n
    induction n with
    | zero =>
      intro i ρ hi h
      have : ds.length ≤ i := by omega
      rw [List.drop_eq_nil_of_le this]
      have e' : i = ds.length := by omega
      exact hd ρ (e' ▸ h)
    | succ n ih =>
      intro i ρ hi h
      have hlt : i < ds.length := by omega
      have hx : ds[i]? = some ds[i] := List.getElem?_eq_getElem hlt
      rw [drop_cons hx]
      refine (fg _ ρ).mono (fun ρ1 p => (fb ρ1).mono (fun o p => ?_) (fun _ z => z) p) (fun _ z => z) (step i _ ρ hx h)
      cases o with
      | nx ρ' => exact ih (i + 1) ρ' (by omega) p
      | ct ρ' => exact ih (i + 1) ρ' (by omega) p
      | bk ρ' => exact p
      | rt d ρ' => exact p
  have := key ds.length 0 ρ (by omega) h0
  rwa [List.drop_zero] at this
theorem lcGo_inv {fg : D → Env → W Env} {ft : Env → W Bool} {fe : Env → W D} {ρ : Env} {q : List D → Prop} {e : Str → Prop} {ds : List D} (I : Nat → List D → Prop) (h0 : I 0 [])
    (step : ∀ (i : Nat) d es, ds[i]? = some d → I i es → (fg d ρ).run (fun ρ2 => (ft ρ2).run (fun b => if b = true then (fe ρ2).run (fun y => I (i + 1) (es ++ [y])) e else I (i + 1) es) e) e) (hd : ∀ es, I ds.length es → q es) : (lcGo fg ft fe ρ ds).run q e := by
  have key : ∀ (n i : Nat) es, i + n = ds.length → I i es → (lcGo fg ft fe ρ (ds.drop i)).run (fun r => q (es ++ r)) e := by
    intro n
    induction n with
    | zero =>
      intro i es hi h
      rw [List.drop_eq_nil_of_le (by omega)]
      have e' : i = ds.length := by omega
      have := hd es (e' ▸ h)
      show q (es ++ [])
      rw [List.append_nil]; exact this
    | succ n ih =>
      intro i es hi h
      have hlt : i < ds.length := by omega
      have hx : ds[i]? = some ds[i] := List.getElem?_eq_getElem hlt
      rw [drop_cons hx]
      refine (fg _ ρ).mono (fun ρ2 p => (ft ρ2).mono (fun b p => ?_) (fun _ z => z) p) (fun _ z => z) (step i _ es hx h)
      cases b with
      | false => exact ih (i + 1) es (by omega) p
      | true =>
        refine (fe ρ2).mono (fun y p => (lcGo fg ft fe ρ _).mono (fun r z => ?_) (fun _ z => z) (ih (i + 1) (es ++ [y]) (by omega) p)) (fun _ z => z) p
        rw [List.append_assoc] at z
        exact z
  have := key ds.length 0 [] (by omega) h0
  rw [List.drop_zero] at this
  exact this
/-- each item goes over into another one -/
theorem lcGo_map {α : Type} {fg : D → Env → W Env} {fe : Env → W D} {ρ : Env} {q : List D → Prop} {e : Str → Prop} {xs : List α} {g : α → D} (f : α → D) (step : ∀ x ∈ xs, (fg (g x) ρ).run (fun ρ2 => (fe ρ2).run (fun y => y = f x) e) e) (hd : q (xs.map f)) : (lcGo fg fYes fe ρ (xs.map g)).run q e := by
  refine lcGo_inv (fun i es => es = (xs.take i).map f) (by simp) (fun i d es hx h => ?_) (fun es h => ?_)
  · obtain ⟨x, hx', rfl⟩ := map_get hx
    refine (fg _ ρ).mono (fun ρ2 p => ?_) (fun _ z => z) (step x (mem_of_get hx'))
    refine (show (if true = true then (fe ρ2).run (fun y => es ++ [y] = ((xs.take (i + 1)).map f)) e else es = ((xs.take (i + 1)).map f)) from ?_)
    rw [if_pos rfl]
    refine (fe ρ2).mono (fun y p => ?_) (fun _ z => z) p
    rw [h, p, take_map hx']
  · rw [List.length_map, List.take_length] at h
    rw [h]; exact hd
theorem iteR {b : Bool} {A B : Prop} (h1 : b = true → A) (h2 : b = false → B) : if b = true then A else B := iteB h1 h2
/-! ### nodes -/
def nodeX : Tr → D
  | .l => .tup [.int 1]
  | .n a b => .tup [.int ((Tr.n a b).enc.length : Nat), nodeX a, nodeX b]
theorem node_sz {t : Tr} {q : D → Prop} {e : Str → Prop} (h : q (.int (t.enc.length : Nat))) : (dIx (nodeX t) (.int 0)).run q e := by
  cases t <;> exact h
theorem node_len {t : Tr} {q : D → Prop} {e : Str → Prop} (h : q (.int (if t = .l then 1 else 3))) : (dLen (nodeX t)).run q e := by
  cases t <;> exact h
/-- the trees that signs from the end make -/
def stk : List Nat → List Tr
  | [] => []
  | c :: l => if c = 48 then .l :: stk l else match stk l with
    | a :: b :: r => .n a b :: r
    | r => r
theorem stk_enc : ∀ (t : Tr) (l : List Nat), stk (t.enc ++ l) = t :: stk l
  | .l, l => rfl
  | .n a b, l => by
    have e : (Tr.n a b).enc ++ l = 49 :: (a.enc ++ (b.enc ++ l)) := by simp [Tr.enc]
    rw [e]
    show (if (49 : Nat) = 48 then _ else match stk (a.enc ++ (b.enc ++ l)) with | a :: b :: r => Tr.n a b :: r | r => r) = _
    rw [if_neg (by decide), stk_enc a, stk_enc b]
theorem stk_len : ∀ l : List Nat, (stk l).length ≤ l.length
  | [] => Nat.le_refl _
  | c :: l => by
    have ih := stk_len l
    unfold stk
    split
    · simp; omega
    · split
      · rename_i a b r h
        rw [h] at ih
        simp at ih ⊢; omega
      · simp; omega
theorem stk_flat : ∀ ts : List Tr, stk ((ts.map Tr.enc).flatten) = ts
  | [] => rfl
  | t :: r => by rw [List.map_cons, List.flatten_cons, stk_enc, stk_flat r]
/-- what is left of trees is trees -/
theorem suf_trees : ∀ (k : Nat) (ts : List Tr), ∃ us : List Tr, ((ts.map Tr.enc).flatten).drop k = (us.map Tr.enc).flatten
  | 0, ts => ⟨ts, rfl⟩
  | k + 1, [] => ⟨[], by simp⟩
  | k + 1, .l :: r => by
    obtain ⟨us, h⟩ := suf_trees k r
    exact ⟨us, h⟩
  | k + 1, .n a b :: r => by
    obtain ⟨us, h⟩ := suf_trees k (a :: b :: r)
    refine ⟨us, h ▸ ?_⟩
    simp [Tr.enc]
theorem dPop_snoc {xs : List D} {x : D} {q : D × D → Prop} {e : Str → Prop} (h : q (x, .lst xs)) : (dPop (.lst (xs ++ [x]))).run q e := by
  have h1 : (xs ++ [x])[(xs ++ [x]).length - 1]? = some x := by simp
  have h2 : (xs ++ [x]).dropLast = xs := by simp
  dsimp only [dPop]
  rw [h1, h2]
  exact h
theorem dIx_at {xs : List D} {i : Nat} {d : D} {q : D → Prop} {e : Str → Prop} (h : xs[i]? = some d) (k : q d) : (dIx (.lst xs) (.int (i : Int))).run q e := by
  dsimp only [dIx]
  rw [atI_nat h]
  exact k
theorem dIx_tup {xs : List D} {i : Nat} {d : D} {q : D → Prop} {e : Str → Prop} (h : xs[i]? = some d) (k : q d) : (dIx (.tup xs) (.int (i : Int))).run q e := by
  dsimp only [dIx]
  rw [atI_nat h]
  exact k
/-! ### the machine -/
inductive SR where
  | nx (i : Nat) (rs : List Tr)
  | large
def regT (rs : List Tr) (a : Nat) : Tr := rs.getD a .l
def stepR (rows : List Row) (i : Nat) (rs : List Tr) : SR := match rows[i]? with
  | none => .nx i rs
  | some (.jump a n) => if regT rs a = .l then .nx (i + 1) rs else .nx ((i : Int) + n).toNat rs
  | some (.set a t) => .nx (i + 1) (rs.set a t)
  | some (.move a b) => .nx (i + 1) (rs.set a (regT rs b))
  | some (.cons a b c) => if 200000 < 1 + (regT rs b).enc.length + (regT rs c).enc.length then .large else .nx (i + 1) (rs.set a (.n (regT rs b) (regT rs c)))
  | some (.head a b) => .nx (i + 1) (rs.set a (regT rs b).hd)
  | some (.tail a b) => .nx (i + 1) (rs.set a (regT rs b).tl)
inductive RR where
  | done (t : Tr) (n : Nat)
  | out
  | large
def RR.up : RR → RR
  | .done t n => .done t (n + 1)
  | r => r
def runR (rows : List Row) : Nat → Nat → List Tr → RR
  | 0, i, rs => if i = rows.length then .done (regT rs 0) 0 else .out
  | k + 1, i, rs => if i = rows.length then .done (regT rs 0) 0 else match stepR rows i rs with
    | .nx i' rs' => (runR rows k i' rs').up
    | .large => .large
/-- the state behind at most so many steps -/
def aftR (rows : List Row) : Nat → Nat → List Tr → Option (Nat × List Tr × Nat)
  | 0, i, rs => some (i, rs, 0)
  | k + 1, i, rs => if i = rows.length then some (i, rs, 0) else match stepR rows i rs with
    | .nx i' rs' => (aftR rows k i' rs').map fun p => (p.1, p.2.1, p.2.2 + 1)
    | .large => none
theorem step_len {rows : List Row} {i : Nat} {rs : List Tr} {i' : Nat} {rs' : List Tr} (h : stepR rows i rs = .nx i' rs') : rs'.length = rs.length := by
  unfold stepR at h
  split at h
  · cases h; rfl
  · split at h <;> cases h <;> rfl
  · cases h; rw [List.length_set]
  · cases h; rw [List.length_set]
  · split at h
    · cases h
    · cases h; rw [List.length_set]
  · cases h; rw [List.length_set]
  · cases h; rw [List.length_set]
theorem step_at {w : Nat} {rows : List Row} (ok : OkPrg w rows) {i : Nat} {rs : List Tr} {i' : Nat} {rs' : List Tr} (hi : i < rows.length) (h : stepR rows i rs = .nx i' rs') : i' ≤ rows.length := by
  have hx : rows[i]? = some rows[i] := List.getElem?_eq_getElem hi
  have o := ok i _ hx
  unfold stepR at h
  rw [hx] at h
  generalize rows[i] = r at h o
  cases r with
  | jump a n =>
    dsimp only at h
    obtain ⟨_, o2, o3⟩ := o
    split at h <;> cases h <;> omega
  | cons a b c =>
    dsimp only at h
    split at h <;> cases h
    omega
  | _ => dsimp only at h; cases h; omega
def reg0 (x : Tr) : List Tr := x :: List.replicate 19 .l
end NV

set_option Elab.async false
set_option linter.all false
set_option maxRecDepth 100000
set_option maxHeartbeats 4000000
/-! # the run of a program, as an instance -/
namespace NV
open PySem PySem.Spec PyProof.Rows L2
open Evl (Ex)
theorem nGlobTK {X : Cx} {K : PySem.W.Frag} {mg : Str → Option Value} {x : Str} {xs : List V} {pos : Pos} (hm : GTup K mg x xs) (hK : X.K = K := by rfl) (hM : X.mg = mg := by rfl) (hg : Gl X x := by rfl) (hd : (x == ("__debug__" : Str)) = false := by decide) : PE X (.Name x pos) (mGT K xs) := by
  subst hK hM
  exact nGlobT hm hg hd
section
variable {K : PySem.W.Frag} {M M' : Addr → Prop} {H H' : Hp}
theorem sq_ins {p C dx : Addr} {fs : List (Str × V)} {o : HO} (hp : H p = some (.ins C dx fs)) {a : Addr} {xs : List V} (h : SqT K H a xs) : SqT K (upd H p o) a xs := by
  rcases h with (h | ⟨u, h⟩) | h
  · exact .inl (.inl (by rw [upd_ne (fun e => by rw [e, hp] at h; cases h)]; exact h))
  · exact .inl (.inr ⟨u, by rw [upd_ne (fun e => by rw [e, hp] at h; cases h)]; exact h⟩)
  · exact .inr h
mutual
theorem Dx.ins {p C dx : Addr} {fs : List (Str × V)} {o : HO} (hp : H p = some (.ins C dx fs)) : ∀ (d : D) {v : V}, Dx K M H d v → Dx K M (upd H p o) d v
  | .non, _, h => h
  | .bl _, _, h => h
  | .int _, _, h => h
  | .str _, _, h => h
  | .ty _, _, h => h
  | .lst ds, _, h => by
    obtain ⟨a, xs, e, m, h1, h2⟩ := h
    exact ⟨a, xs, e, m, by rw [upd_ne (fun e => by rw [e, hp] at h1; cases h1)]; exact h1, DxAll.ins hp ds h2⟩
  | .tup ds, _, h => by
    obtain ⟨a, xs, e, h1, h2⟩ := h
    exact ⟨a, xs, e, sq_ins hp h1, DxAll.ins hp ds h2⟩
  | .strm, _, h => by
    obtain ⟨p, q, ns, e, n1, n2, h1, h2⟩ := h
    exact ⟨p, q, ns, e, n1, n2, by rw [upd_ne (fun e => by rw [e, hp] at h1; cases h1)]; exact h1, by rw [upd_ne (fun e => by rw [e, hp] at h2; cases h2)]; exact h2⟩
  | .scr, _, h => by
    obtain ⟨a, ns, e, h1, h2⟩ := h
    refine ⟨a, ns, e, h1.imp (fun z => ⟨z.1, ?_⟩) id, h2⟩
    rcases z.2 with h | ⟨o, h⟩
    · exact .inl (by rw [upd_ne (fun e => by rw [e, hp] at h; cases h)]; exact h)
    · exact .inr ⟨o, by rw [upd_ne (fun e => by rw [e, hp] at h; cases h)]; exact h⟩
theorem DxAll.ins {p C dx : Addr} {fs : List (Str × V)} {o : HO} (hp : H p = some (.ins C dx fs)) : ∀ (ds : List D) {vs : List V}, DxAll K M H ds vs → DxAll K M (upd H p o) ds vs
  | [], _, h => h
  | d :: ds, _, h => by
    obtain ⟨x, r, e, h1, h2⟩ := h
    exact ⟨x, r, e, Dx.ins hp d h1, DxAll.ins hp ds h2⟩
end
/-- slots that are told, and slots that are not -/
def EnvL (K : PySem.W.Frag) (M : Addr → Prop) (H : Hp) : L2.St → Env → Prop
  | [], [] => True
  | s :: σ, r :: ρ => (∀ d, r = some d → ∃ v, s = some v ∧ Dx K M H d v) ∧ EnvL K M H σ ρ
  | _, _ => False
theorem EnvL.e : ∀ {σ : L2.St} {ρ : Env}, EnvL K M H σ ρ → EnvE K M [] H σ ρ
  | [], [], _ => ⟨rfl, fun i d _ h => by simp at h, fun _ _ q => nomatch q⟩
  | s :: σ, r :: ρ, h => by
    have ih := EnvL.e h.2
    refine ⟨by rw [List.length_cons, List.length_cons, ih.len], fun i d n e => ?_, fun _ _ q => nomatch q⟩
    cases i with
    | zero =>
      simp at e; subst e
      obtain ⟨v, e1, e2⟩ := h.1 d rfl
      exact ⟨v, by simp [e1], e2⟩
    | succ i =>
      obtain ⟨v, e1, e2⟩ := ih.val i d (fun q => nomatch q) (by simpa using e)
      exact ⟨v, by simpa using e1, e2⟩
  | [], _ :: _, h => False.elim h
  | _ :: _, [], h => False.elim h
theorem PD.use {mg : Str → Option Value} {Eo : XK} {m : Md} {te : TE} {σ : L2.St} {Q : VK} (fe : Env → W D) (M : Addr → Prop) (ρ : Env) (mk : Mk M H) (env : EnvL K M H σ ρ) (pd : PD K mg Eo [] m te fe) (run : (fe ρ).run (Post K M H Q m) (PostX mg H Eo)) : te σ H Q := pd M ρ σ H Q mk env.e run
theorem mk_no {H : Hp} : Mk NM H := fun _ z => False.elim z
def rowN : Row → Tr
  | .set _ t => t
  | _ => .l
/-- a run stands at p; what stood in B stands -/
def RunOn (K : PySem.W.Frag) (mg : Str → Option Value) (B H : Hp) (p C dx rA : Addr) (pv tv : V) (ys : List V) (rows : List Row) (i : Nat) (rs : List Tr) : Prop :=
  mg "Runner" = some (.ref C) ∧ H p = some (.ins C dx [("program", pv), ("trees", tv), ("index", .int (i : Nat)), ("registers", .ref rA)]) ∧ H rA = some (.lst ys) ∧ Ex B H ∧ B p = none ∧ B rA = none ∧
    Dx K (M1 NM rA) H (prgX rows) pv ∧ Dx K (M1 NM rA) H (.lst (rows.map fun r => nodeX (rowN r))) tv ∧ DxAll K (M1 NM rA) H (rs.map nodeX) ys
def RunAt (K : PySem.W.Frag) (mg : Str → Option Value) (B H : Hp) (p : Addr) (rows : List Row) (i : Nat) (rs : List Tr) : Prop :=
  ∃ C dx rA pv tv ys, RunOn K mg B H p C dx rA pv tv ys rows i rs
theorem ex_upd {B H : Hp} {p : Addr} {o : HO} (e : Ex B H) (n : B p = none) : Ex B (upd H p o) := fun a u h => by
  rw [upd_ne (fun q => by rw [q, n] at h; cases h)]
  exact e a u h
theorem RunOn.ex {mg : Str → Option Value} {B : Hp} {p C dx rA : Addr} {pv tv : V} {ys : List V} {rows : List Row} {i : Nat} {rs : List Tr} (e : Ex H H') (h : RunOn K mg B H p C dx rA pv tv ys rows i rs) : RunOn K mg B H' p C dx rA pv tv ys rows i rs := by
  obtain ⟨h1, h2, h3, h4, h5, h6, h7, h8, h9⟩ := h
  exact ⟨h1, e _ _ h2, e _ _ h3, h4.trans e, h5, h6, Dx.ex e h7, Dx.ex e h8, DxAll.ex e h9⟩
theorem RunAt.ex {mg : Str → Option Value} {B : Hp} {p : Addr} {rows : List Row} {i : Nat} {rs : List Tr} (e : Ex H H') (h : RunAt K mg B H p rows i rs) : RunAt K mg B H' p rows i rs := by
  obtain ⟨C, dx, rA, pv, tv, ys, h⟩ := h
  exact ⟨C, dx, rA, pv, tv, ys, h.ex e⟩
/-- a register is set -/
theorem RunOn.set {mg : Str → Option Value} {B : Hp} {p C dx rA : Addr} {pv tv : V} {ys : List V} {rows : List Row} {i : Nat} {rs : List Tr} (h : RunOn K mg B H p C dx rA pv tv ys rows i rs) {t : Tr} {v : V} (hv : Dx K (M1 NM rA) H (nodeX t) v) (a : Nat) :
    RunOn K mg B (upd H rA (.lst (ys.set a v))) p C dx rA pv tv (ys.set a v) rows i (rs.set a t) := by
  obtain ⟨h1, h2, h3, h4, h5, h6, h7, h8, h9⟩ := h
  have kx : Kx K (M1 NM rA) H (upd H rA (.lst (ys.set a v))) := Kx.upd (.inr rfl) h3
  refine ⟨h1, ?_, upd_same, ex_upd h4 h6, h5, h6, Dx.kx kx _ h7, Dx.kx kx _ h8, DxAll.kx kx _ ?_⟩
  · rw [upd_ne (fun q => by rw [q, h3] at h2; cases h2)]; exact h2
  · rw [List.map_set]
    exact DxAll.set a h9 hv
/-- the index goes on -/
theorem RunOn.go {mg : Str → Option Value} {B : Hp} {p C dx rA : Addr} {pv tv : V} {ys : List V} {rows : List Row} {i : Nat} {rs : List Tr} (h : RunOn K mg B H p C dx rA pv tv ys rows i rs) {i' : Nat} {j : Int} (hj : j = (i' : Nat)) :
    RunAt K mg B (upd H p (.ins C dx [("program", pv), ("trees", tv), ("index", .int j), ("registers", .ref rA)])) p rows i' rs := by
  obtain ⟨h1, h2, h3, h4, h5, h6, h7, h8, h9⟩ := h
  subst hj
  refine ⟨C, dx, rA, pv, tv, ys, h1, upd_same, ?_, ex_upd h4 h5, h5, h6, Dx.ins h2 _ h7, Dx.ins h2 _ h8, DxAll.ins h2 _ h9⟩
  rw [upd_ne (fun q => by rw [q, h2] at h3; cases h3)]; exact h3
theorem node_at {t : Tr} {v : V} (h : Dx K M H (nodeX t) v) : ∃ q xs, v = .ref q ∧ SqT K H q xs ∧ xs.length = (if t = .l then 1 else 3) ∧ xs[0]? = some (.int (t.enc.length : Nat)) ∧ (t ≠ .l → (∃ x, xs[1]? = some x ∧ Dx K M H (nodeX t.hd) x) ∧ (∃ x, xs[2]? = some x ∧ Dx K M H (nodeX t.tl) x)) := by
  cases t with
  | l =>
    obtain ⟨q, xs, rfl, h1, x, r, rfl, h2, rfl⟩ := h
    cases h2
    exact ⟨q, _, rfl, h1, rfl, rfl, fun n => absurd rfl n⟩
  | n a b =>
    obtain ⟨q, xs, rfl, h1, x, r, rfl, h2, x2, r2, rfl, h3, x3, r3, rfl, h4, rfl⟩ := h
    cases h2
    exact ⟨q, _, rfl, h1, rfl, rfl, fun n => ⟨⟨x2, rfl, h3⟩, ⟨x3, rfl, h4⟩⟩⟩
theorem reg_get {rs : List Tr} {ys : List V} {a : Nat} (h : DxAll K M H (rs.map nodeX) ys) (ha : a < rs.length) : ∃ v, atI ys (a : Int) = some v ∧ Dx K M H (nodeX (regT rs a)) v := by
  have hx : rs[a]? = some (regT rs a) := by
    unfold regT
    rw [List.getD_eq_getElem?_getD, List.getElem?_eq_getElem ha]; rfl
  obtain ⟨v, h1, h2⟩ := DxAll.get (i := a) (d := nodeX (regT rs a)) h (by rw [List.getElem?_map, hx]; rfl)
  exact ⟨v, atI_nat h1, h2⟩
end
theorem iteC {c n : Nat} {A B : Prop} (h1 : c = n → A) (h2 : c ≠ n → B) : if decide (V.int ((c : Nat) : Int) = V.int ((n : Nat) : Int)) = true then A else B := by
  by_cases q : c = n
  · rw [if_pos (decide_eq_true (by rw [q]))]; exact h1 q
  · rw [if_neg (fun z => q (by have := of_decide_eq_true z; injection this with z; omega))]; exact h2 q
def treesN (n : Nat) (rows : List Row) : Prop := ∀ r ∈ rows, (rowN r).enc.length ≤ n
def regsN (n : Nat) (rs : List Tr) : Prop := ∀ t ∈ rs, t.enc.length ≤ n
theorem regT_mem {rs : List Tr} (b : Nat) : regT rs b ∈ rs ∨ regT rs b = .l := by
  unfold regT
  rw [List.getD_eq_getElem?_getD]
  cases q : rs[b]? with
  | none => exact .inr rfl
  | some t => exact .inl (mem_of_get q)
theorem regT_le {n : Nat} {rs : List Tr} (h : regsN n rs) (hn : 1 ≤ n) (b : Nat) : (regT rs b).enc.length ≤ n := by
  rcases regT_mem (rs := rs) b with q | q
  · exact h _ q
  · rw [q]; exact hn
theorem regsN_set {n : Nat} {rs : List Tr} {a : Nat} {t : Tr} (h : regsN n rs) (ht : t.enc.length ≤ n) : regsN n (rs.set a t) := fun u hu => by
  rcases List.mem_or_eq_of_mem_set hu with q | q
  · exact h u q
  · rw [q]; exact ht
theorem hd_le (t : Tr) : t.hd.enc.length ≤ t.enc.length := by
  cases t with
  | l => exact Nat.le_refl _
  | n a b => show a.enc.length ≤ _; simp [Tr.enc]; omega
theorem tl_le (t : Tr) : t.tl.enc.length ≤ t.enc.length := by
  cases t with
  | l => exact Nat.le_refl _
  | n a b => show b.enc.length ≤ _; simp [Tr.enc]; omega
theorem step_sz {n : Nat} {rows : List Row} {i : Nat} {rs : List Tr} {i' : Nat} {rs' : List Tr} (hn : 200000 ≤ n) (tr : treesN n rows) (h : regsN n rs) (e : stepR rows i rs = .nx i' rs') : regsN n rs' := by
  have rl := fun b => regT_le h (by omega) b
  unfold stepR at e
  split at e
  · cases e; exact h
  · split at e <;> cases e <;> exact h
  · rename_i a t q
    cases e; exact regsN_set h (tr _ (mem_of_get q))
  · cases e; exact regsN_set h (rl _)
  · split at e
    · cases e
    · rename_i g
      cases e
      refine regsN_set h ?_
      simp only [Tr.enc, List.length_cons, List.length_append]
      omega
  · cases e; exact regsN_set h (Nat.le_trans (hd_le _) (rl _))
  · cases e; exact regsN_set h (Nat.le_trans (tl_le _) (rl _))
/-- a program that may run -/
def RunOk (rows : List Row) : Prop := OkPrg 20 rows ∧ treesN 1000000 rows ∧ rows.length ≤ 100000
def stX (i : Nat) (rs : List Tr) : D := .tup [.int (i : Nat), .tup (rs.map treeX)]
def RR.ok (kd : Tr → Nat → Prop) (ko kl : Prop) : RR → Nat → Prop
  | .done t n, c => kd t (n + c)
  | .out, _ => ko
  | .large, _ => kl
theorem RR.ok_up {kd : Tr → Nat → Prop} {ko kl : Prop} {r : RR} {c : Nat} (h : r.up.ok kd ko kl c) : r.ok kd ko kl (c + 1) := by
  cases r with
  | done t n =>
    have h' : kd t (n + 1 + c) := h
    show kd t (n + (c + 1))
    rwa [show n + (c + 1) = n + 1 + c by omega]
  | out => exact h
  | large => exact h
def runW : RR → W D
  | .done t n => .ok (.tup [treeX t, .int (n : Nat)])
  | .out => .exc "OutOfSteps"
  | .large => .exc "TooLarge"
def aftW : Option (Nat × List Tr × Nat) → W D
  | some (i, rs, n) => .ok (.tup [stX i rs, .int (n : Nat)])
  | none => .exc "TooLarge"
def stepW (rows : List Row) (i : Nat) (rs : List Tr) : W D := if i = rows.length then .exc "Ended" else match stepR rows i rs with
  | .nx i' rs' => .ok (stX i' rs')
  | .large => .exc "TooLarge"
theorem reg0_len (x : Tr) : (reg0 x).length = 20 := rfl
theorem reg0_sz {n : Nat} {x : Tr} (h : x.enc.length ≤ n) (hn : 1 ≤ n) : regsN n (reg0 x) := fun t ht => by
  rcases List.mem_cons.mp ht with q | q
  · rw [q]; exact h
  · rw [List.eq_of_mem_replicate q]; exact hn
def aftOk (kd : Nat → List Tr → Nat → Prop) (kl : Prop) : Option (Nat × List Tr × Nat) → Nat → Prop
  | some (i, rs, n), c => kd i rs (n + c)
  | none, _ => kl
theorem aftOk_up {kd : Nat → List Tr → Nat → Prop} {kl : Prop} {r : Option (Nat × List Tr × Nat)} {c : Nat} (h : aftOk kd kl (r.map fun p => (p.1, p.2.1, p.2.2 + 1)) c) : aftOk kd kl r (c + 1) := by
  cases r with
  | none => exact h
  | some p =>
    obtain ⟨i, rs, n⟩ := p
    have h' : kd i rs (n + 1 + c) := h
    show kd i rs (n + (c + 1))
    rwa [show n + (c + 1) = n + 1 + c by omega]
theorem trees_any {K : PySem.W.Frag} {M M' : Addr → Prop} {H : Hp} : ∀ {rs : List Tr} {vs : List V}, DxAll K M H (rs.map treeX) vs → DxAll K M' H (rs.map treeX) vs
  | [], _, h => h
  | t :: rs, _, h => by
    obtain ⟨x, r, rfl, h1, h2⟩ := h
    exact ⟨x, r, rfl, h1, trees_any h2⟩
theorem st_any {K : PySem.W.Frag} {M M' : Addr → Prop} {H : Hp} {i : Nat} {rs : List Tr} {v : V} (h : Dx K M H (stX i rs) v) : Dx K M' H (stX i rs) v := by
  obtain ⟨q, xs, rfl, hq, x, _, rfl, hi, rv, _, rfl, ⟨l, ys, rfl, hl, hy⟩, rfl⟩ := h
  exact ⟨q, _, rfl, hq, x, _, rfl, hi, _, _, rfl, ⟨l, ys, rfl, hl, trees_any hy⟩, rfl⟩
end NV

set_option Elab.async false
set_option linter.all false
set_option maxRecDepth 100000
set_option maxHeartbeats 4000000
/-! # try, over plain data -/
namespace NV
open PySem PySem.Spec PyProof.Rows L2
open Evl (Ex)
/-- try: .. except A: .. except B: .. -/
def mTry2 (K : PySem.W.Frag) (mg : Str → Option Value) (x1 x2 : Str) (Wout : WX) (ts1 ts2 : Addr → Value → Option Addr → TS) (tb : WX → TS) : TS := fun D σ H => ∀ c1 c2, mg x1 = some c1 → mg x2 = some c2 → tb (wMany K Wout D [(c1, ts1), (c2, ts2)]) D σ H
def mTryO (K : PySem.W.Frag) (mg : Str → Option Value) (x : Str) (Wout : WX) (ts : Addr → Value → Option Addr → TS) (tb : WX → TS) : TS := fun D σ H => ∀ c, mg x = some c → tb (wOnly K c ts Wout D) D σ H
def mTryA (K : PySem.W.Frag) (mg : Str → Option Value) (x : Str) (i : Nat) (Wout : WX) (ts : Addr → Value → Option Addr → TS) (tb : WX → TS) : TS := fun D σ H => ∀ c, mg x = some c → tb (wAs K c i ts Wout D) D σ H
theorem nTryOnlyD {X : Cx} {x : Str} {body suite : List Stmt} {b₀ : Stmt} {np pos pos' : Pos} {tb : WX → TS} {ts : Addr → Value → Option Addr → TS} {Wout : WX} (hs : X.stack = X.env :: X.outer) (hf : X.env.frame = some X.env.locals) (hx : ExcK X.K X.mg x) (tk : Takes X Wout)
    (hb : ∀ (W : WX) (pn : List (Addr × Obj)) (xe : Value → Shared → Prop), Takes (X.tr pn xe) W → PassesOwn (model X.prog X.w) X.A X.env xe → PSs (X.tr pn xe) body (tb W))
    (hsu : ∀ (a : Addr) (oe : Obj) (cls : Value) (d : Option Addr) (pn : List (Addr × Obj)), Zc cls d oe → (∃ vs, oe.data = .fields vs) → PSs (X.suite a ((a, oe) :: pn)) (b₀ :: suite) (ts a cls d)) (hg : Gl X x := by rfl) (hdb : (x == ("__debug__" : Str)) = false := by decide) :
    PS X (.Try body [.ExceptHandler (some (.Name x np)) none (b₀ :: suite) pos'] [] [] pos) (mTryO X.K X.mg x Wout ts tb) := nTryOnly hs hf hx tk hb hsu hg hdb
theorem nTryAsD {X : Cx} {x n : Str} {i : Nat} {body suite : List Stmt} {b₀ : Stmt} {np pos pos' : Pos} {tb : WX → TS} {ts : Addr → Value → Option Addr → TS} {Wout : WX} (hs : X.stack = X.env :: X.outer) (hf : X.env.frame = some X.env.locals) (hN : X.N.Nodup) (hi : X.N[i]? = some n) (hln : X.env.kindOf n = some .local) (hx : ExcK X.K X.mg x) (tk : Takes X Wout)
    (hb : ∀ (W : WX) (pn : List (Addr × Obj)) (xe : Value → Shared → Prop), Takes (X.tr pn xe) W → PassesOwn (model X.prog X.w) X.A X.env xe → PSs (X.tr pn xe) body (tb W))
    (hsu : ∀ (a : Addr) (oe : Obj) (cls : Value) (d : Option Addr) (pn : List (Addr × Obj)), Zc cls d oe → (∃ vs, oe.data = .fields vs) → PSs (X.suite a ((a, oe) :: pn)) (b₀ :: suite) (ts a cls d)) (hg : Gl X x := by rfl) (hdb : (x == ("__debug__" : Str)) = false := by decide) :
    PS X (.Try body [.ExceptHandler (some (.Name x np)) (some n) (b₀ :: suite) pos'] [] [] pos) (mTryA X.K X.mg x i Wout ts tb) := nTryAs hs hf hN hi hln hx tk hb hsu hg hdb
theorem nTryMany2 {X : Cx} {x1 x2 : Str} {body suite1 suite2 : List Stmt} {b1 b2 : Stmt} {np1 pos1 np2 pos2 pos : Pos} {tb : WX → TS} {ts1 ts2 : Addr → Value → Option Addr → TS} {Wout : WX} (hs : X.stack = X.env :: X.outer) (hf : X.env.frame = some X.env.locals) (hx1 : ExcK X.K X.mg x1) (hx2 : ExcK X.K X.mg x2) (tk : Takes X Wout)
    (hb : ∀ (W : WX) (pn : List (Addr × Obj)) (xe : Value → Shared → Prop), Takes (X.tr pn xe) W → PassesOwn (model X.prog X.w) X.A X.env xe → PSs (X.tr pn xe) body (tb W))
    (hsu1 : ∀ (a : Addr) (oe : Obj) (cls : Value) (d : Option Addr) (pn : List (Addr × Obj)), Zc cls d oe → (∃ vs, oe.data = .fields vs) → PSs (X.suite a ((a, oe) :: pn)) (b1 :: suite1) (ts1 a cls d))
    (hsu2 : ∀ (a : Addr) (oe : Obj) (cls : Value) (d : Option Addr) (pn : List (Addr × Obj)), Zc cls d oe → (∃ vs, oe.data = .fields vs) → PSs (X.suite a ((a, oe) :: pn)) (b2 :: suite2) (ts2 a cls d))
    (hg1 : Gl X x1 := by rfl) (hdb1 : (x1 == ("__debug__" : Str)) = false := by decide) (hg2 : Gl X x2 := by rfl) (hdb2 : (x2 == ("__debug__" : Str)) = false := by decide) :
    PS X (.Try body [.ExceptHandler (some (.Name x1 np1)) none (b1 :: suite1) pos1, .ExceptHandler (some (.Name x2 np2)) none (b2 :: suite2) pos2] [] [] pos) (mTry2 X.K X.mg x1 x2 Wout ts1 ts2 tb) := by
  obtain ⟨C1, g1, e1, kp1, sb1, ty1⟩ := hx1.ex
  obtain ⟨C2, g2, e2, kp2, sb2, ty2⟩ := hx2.ex
  refine ⟨fun pins s σ H D I h => ?_⟩
  exact (L2.ps_try_many hs hf tk hb (.cons ⟨hg1, hdb1, .inl g1⟩ hsu1 (.cons ⟨hg2, hdb2, .inl g2⟩ hsu2 .nil))).run pins s σ H D I (h _ _ g1 g2)
/-! data with no list in it -/
mutual
def D.nol : D → Bool
  | .lst _ => false
  | .strm => false
  | .scr => false
  | .tup ds => nolAll ds
  | _ => true
def nolAll : List D → Bool
  | [] => true
  | d :: ds => d.nol && nolAll ds
end
section
variable {K : PySem.W.Frag} {M M' : Addr → Prop} {H : Hp}
mutual
theorem Dx.any : ∀ (d : D) {v : V}, d.nol = true → Dx K M H d v → Dx K M' H d v
  | .non, _, _, h => h
  | .bl _, _, _, h => h
  | .int _, _, _, h => h
  | .str _, _, _, h => h
  | .ty _, _, _, h => h
  | .tup ds, _, n, h => by
    obtain ⟨a, xs, e, h1, h2⟩ := h
    exact ⟨a, xs, e, h1, DxAll.any ds n h2⟩
  | .lst ds, _, n, h => by cases n
  | .strm, _, n, h => by cases n
  | .scr, _, n, h => by cases n
theorem DxAll.any : ∀ (ds : List D) {vs : List V}, nolAll ds = true → DxAll K M H ds vs → DxAll K M' H ds vs
  | [], _, _, h => h
  | d :: ds, _, n, h => by
    have n' : (d.nol && nolAll ds) = true := n
    rw [Bool.and_eq_true] at n'
    obtain ⟨x, r, e, h1, h2⟩ := h
    exact ⟨x, r, e, Dx.any d n'.1 h1, DxAll.any ds n'.2 h2⟩
end
theorem envl_none : ∀ σ : L2.St, EnvL K M H σ (List.replicate σ.length none)
  | [] => True.intro
  | _ :: σ => ⟨fun _ q => (nomatch q), envl_none σ⟩
end
/-- what an exception of a try is told, whatever the slots hold -/
def XW (n : Nat) (W : WX) : XK := fun cls d H => ∀ σ : L2.St, σ.length = n → W cls d σ H
def fTry (fb : Env → W Out) (h : Str → Option D) : Env → W Out := fun ρ => ⟨fun q e => (fb ρ).run q (fun m => match h m with
  | some d => q (.rt d ρ)
  | none => False), fun {q q' e e'} hq he z => (fb ρ).mono hq (fun m y => by
    cases g : h m with
    | none => rw [g] at y; exact y
    | some d => rw [g] at y; exact hq _ y) z⟩
def fCallS (n : Nat) (F : List D → W D) (fa : Env → W (List D)) : Env → W D := fun ρ => if ρ.length = n then fCall F fa ρ else .stuck
section
variable {K : PySem.W.Frag} {mg : Str → Option Value} {Eo : XK} {own oN oB oC : List Nat}
theorem pd_callS {l n : Nat} {Wx : WX} {m : Md} {F : List D → W D} {ta : TA} {fa : Env → W (List D)} (hl : LenA l fa) (ha : PDA K mg (XW n Wx) own ta fa) : PD K mg (XW n Wx) own m (mCallS (spF K mg l m F) (WE Wx) ta) (fCallS n F fa) := fun M ρ σ H Q mk E h => by
  by_cases q : ρ.length = n
  · have e : fCallS n F fa ρ = fCall F fa ρ := if_pos q
    rw [e] at h
    exact ha M ρ σ H _ mk E ((fa ρ).mono (fun ds p vs H1 e1 r1 => ⟨M, ds, p.1, mk.ex e1, r1, (F ds).mono (fun d p => Post.mono e1 p) (fun n z cls H2 e2 g => (z cls H2 (e1.trans e2) g) σ (E.len.trans q)) p.2⟩) (fun _ z => z) (hl ρ _ _ h))
  · have e : fCallS n F fa ρ = .stuck := if_neg q
    rw [e] at h
    exact False.elim h
theorem sd_try {n : Nat} {R : Ends → WX} {tb : WX → TS} {fb : Env → W Out} {h : Str → Option D} (hb : ∀ Wx : WX, SD K mg (XW n Wx) .v [] own oN oB oC (tb Wx) fb) (hn : ∀ m d, h m = some d → d.nol = true)
    (hh : ∀ (De : Ends) (m : Str) (d : D) (cls : Value) (σ : L2.St) (H : Hp), h m = some d → mg m = some cls → σ.length = n → (∀ v H', Ex H H' → Dx K NM H' d v → De.rt v H') → R De cls none σ H) :
    SD K mg Eo .v [] own oN oB oC (fun De σ H => tb (R De) De σ H) (fTry fb h) := fun M0 B io cs M H σ ρ De hio E run =>
  hb (R De) M0 B io cs M H σ ρ De hio E ((fb ρ).mono (fun _ p => p) (fun m z cls H' kx gm σ' hl => by
    cases g : h m with
    | none => rw [g] at z; exact False.elim z
    | some d =>
      rw [g] at z
      have z' : PostR K M0 B io De.rt .v d ρ := z
      obtain rfl : io = [] := by
        cases io with
        | nil => rfl
        | cons p r => cases hio
      exact hh De m d cls σ' H' g gm hl fun v H2 e2 r => z' v H2 (kx.trans (Kx.ex e2)) (Dx.any d (hn m d g) r) (fun p hp => nomatch hp)) run)
theorem sd_try2 {n : Nat} {x1 x2 : Str} {Wout : WX} {ts1 ts2 : Addr → Value → Option Addr → TS} {tb : WX → TS} {fb : Env → W Out} {h : Str → Option D} (hb : ∀ Wx : WX, SD K mg (XW n Wx) .v [] own oN oB oC (tb Wx) fb) (hn : ∀ m d, h m = some d → d.nol = true)
    (hh : ∀ (c1 c2 : Value) (_ : mg x1 = some c1) (_ : mg x2 = some c2) (De : Ends) (m : Str) (d : D) (cls : Value) (σ : L2.St) (H : Hp), h m = some d → mg m = some cls → σ.length = n → (∀ v H', Ex H H' → Dx K NM H' d v → De.rt v H') → wMany K Wout De [(c1, ts1), (c2, ts2)] cls none σ H) :
    SD K mg Eo .v [] own oN oB oC (mTry2 K mg x1 x2 Wout ts1 ts2 tb) (fTry fb h) := fun M0 B io cs M H σ ρ De hio E run c1 c2 g1 g2 =>
  sd_try (R := fun De => wMany K Wout De [(c1, ts1), (c2, ts2)]) hb hn (hh c1 c2 g1 g2) M0 B io cs M H σ ρ De hio E run
theorem sd_tryO {n : Nat} {x : Str} {Wout : WX} {ts : Addr → Value → Option Addr → TS} {tb : WX → TS} {fb : Env → W Out} {h : Str → Option D} (hb : ∀ Wx : WX, SD K mg (XW n Wx) .v [] own oN oB oC (tb Wx) fb) (hn : ∀ m d, h m = some d → d.nol = true)
    (hh : ∀ (c : Value) (_ : mg x = some c) (De : Ends) (m : Str) (d : D) (cls : Value) (σ : L2.St) (H : Hp), h m = some d → mg m = some cls → σ.length = n → (∀ v H', Ex H H' → Dx K NM H' d v → De.rt v H') → wOnly K c ts Wout De cls none σ H) :
    SD K mg Eo .v [] own oN oB oC (mTryO K mg x Wout ts tb) (fTry fb h) := fun M0 B io cs M H σ ρ De hio E run c g =>
  sd_try (R := fun De => wOnly K c ts Wout De) hb hn (hh c g) M0 B io cs M H σ ρ De hio E run
theorem sd_tryA {n i : Nat} {x : Str} {Wout : WX} {ts : Addr → Value → Option Addr → TS} {tb : WX → TS} {fb : Env → W Out} {h : Str → Option D} (hb : ∀ Wx : WX, SD K mg (XW n Wx) .v [] own oN oB oC (tb Wx) fb) (hn : ∀ m d, h m = some d → d.nol = true)
    (hh : ∀ (c : Value) (_ : mg x = some c) (De : Ends) (m : Str) (d : D) (cls : Value) (σ : L2.St) (H : Hp), h m = some d → mg m = some cls → σ.length = n → (∀ v H', Ex H H' → Dx K NM H' d v → De.rt v H') → wAs K c i ts Wout De cls none σ H) :
    SD K mg Eo .v [] own oN oB oC (mTryA K mg x i Wout ts tb) (fTry fb h) := fun M0 B io cs M H σ ρ De hio E run c g =>
  sd_try (R := fun De => wAs K c i ts Wout De) hb hn (hh c g) M0 B io cs M H σ ρ De hio E run
end
/-- what is caught, and what is handed back then -/
def tblGet : List (Str × D) → Str → Option D
  | [], _ => none
  | (x, d) :: r, m => if m = x then some d else tblGet r m
theorem tbl_cons {x m : Str} {d d0 : D} {r : List (Str × D)} (h : tblGet ((x, d0) :: r) m = some d) : (m = x ∧ d = d0) ∨ tblGet r m = some d := by
  unfold tblGet at h
  split at h
  · rename_i q
    cases h; exact .inl ⟨q, rfl⟩
  · exact .inr h
theorem tbl_nil {m : Str} {d : D} (h : tblGet [] m = some d) : False := by cases h
theorem tbl_nol : ∀ {t : List (Str × D)}, (t.all fun p => p.2.nol) = true → ∀ m d, tblGet t m = some d → d.nol = true
  | [], _, m, d, h => (tbl_nil h).elim
  | (x, d0) :: r, a, m, d, h => by
    rw [List.all_cons, Bool.and_eq_true] at a
    rcases tbl_cons h with ⟨_, rfl⟩ | h
    · exact a.1
    · exact tbl_nol a.2 m d h
theorem st1 {σ : L2.St} (h : σ.length = 1) : ∃ a, σ = [a] := by
  cases σ with
  | nil => simp at h
  | cons a r => cases r with
    | nil => exact ⟨a, rfl⟩
    | cons b r => simp at h
theorem st2 {σ : L2.St} (h : σ.length = 2) : ∃ a b, σ = [a, b] := by
  cases σ with
  | nil => simp at h
  | cons a r => obtain ⟨b, rfl⟩ := st1 (σ := r) (by simpa using h); exact ⟨a, b, rfl⟩
theorem st3 {σ : L2.St} (h : σ.length = 3) : ∃ a b c, σ = [a, b, c] := by
  cases σ with
  | nil => simp at h
  | cons a r => obtain ⟨b, c, rfl⟩ := st2 (σ := r) (by simpa using h); exact ⟨a, b, c, rfl⟩
theorem st4 {σ : L2.St} (h : σ.length = 4) : ∃ a b c d, σ = [a, b, c, d] := by
  cases σ with
  | nil => simp at h
  | cons a r => obtain ⟨b, c, d, rfl⟩ := st3 (σ := r) (by simpa using h); exact ⟨a, b, c, d, rfl⟩
theorem st5 {σ : L2.St} (h : σ.length = 5) : ∃ a b c d e, σ = [a, b, c, d, e] := by
  cases σ with
  | nil => simp at h
  | cons a r => obtain ⟨b, c, d, e, rfl⟩ := st4 (σ := r) (by simpa using h); exact ⟨a, b, c, d, e, rfl⟩
theorem st6 {σ : L2.St} (h : σ.length = 6) : ∃ a b c d e f, σ = [a, b, c, d, e, f] := by
  cases σ with
  | nil => simp at h
  | cons a r => obtain ⟨b, c, d, e, f, rfl⟩ := st5 (σ := r) (by simpa using h); exact ⟨a, b, c, d, e, f, rfl⟩
end NV

set_option Elab.async false
set_option linter.all false
set_option maxRecDepth 100000
set_option maxHeartbeats 4000000
/-! # runs, told -/
namespace NV
open PySem PySem.Spec PyProof.Rows L2
open Evl (Ex)
/-- so many steps, none of which is too large -/
def goR (rows : List Row) : Nat → Nat → List Tr → Option (Nat × List Tr)
  | 0, i, rs => some (i, rs)
  | k + 1, i, rs => if i = rows.length then none else match stepR rows i rs with
    | .nx i' rs' => goR rows k i' rs'
    | .large => none
section
variable {rows : List Row}
theorem goR_succ {k i : Nat} {rs : List Tr} : goR rows (k + 1) i rs = if i = rows.length then none else match stepR rows i rs with
    | .nx i' rs' => goR rows k i' rs'
    | .large => none := rfl
theorem runR_succ {k i : Nat} {rs : List Tr} : runR rows (k + 1) i rs = if i = rows.length then .done (regT rs 0) 0 else match stepR rows i rs with
    | .nx i' rs' => (runR rows k i' rs').up
    | .large => .large := rfl
theorem aftR_succ {k i : Nat} {rs : List Tr} : aftR rows (k + 1) i rs = if i = rows.length then some (i, rs, 0) else match stepR rows i rs with
    | .nx i' rs' => (aftR rows k i' rs').map fun p => (p.1, p.2.1, p.2.2 + 1)
    | .large => none := rfl
/-- the first of so many steps -/
theorem goR_one {k i : Nat} {rs : List Tr} {p : Nat × List Tr} (h : goR rows (k + 1) i rs = some p) : i ≠ rows.length ∧ ∃ i' rs', stepR rows i rs = .nx i' rs' ∧ goR rows k i' rs' = some p := by
  rw [goR_succ] at h
  by_cases g : i = rows.length
  · rw [if_pos g] at h; cases h
  · rw [if_neg g] at h
    cases e : stepR rows i rs with
    | large => rw [e] at h; cases h
    | nx i' rs' => rw [e] at h; exact ⟨g, i', rs', rfl, h⟩
theorem goR_step {k i i' : Nat} {rs rs' : List Tr} (g : i ≠ rows.length) (e : stepR rows i rs = .nx i' rs') : goR rows (k + 1) i rs = goR rows k i' rs' := by rw [goR_succ, if_neg g, e]
theorem goR_add : ∀ {k m : Nat} {i : Nat} {rs : List Tr} {i' : Nat} {rs' : List Tr}, goR rows k i rs = some (i', rs') → goR rows (k + m) i rs = goR rows m i' rs'
  | 0, m, i, rs, i', rs', h => by cases h; rw [Nat.zero_add]
  | k + 1, m, i, rs, i', rs', h => by
    obtain ⟨g, i1, rs1, e, h⟩ := goR_one h
    rw [show k + 1 + m = (k + m) + 1 by omega, goR_step g e]
    exact goR_add h
theorem runR_step {k i i' : Nat} {rs rs' : List Tr} (g : i ≠ rows.length) (e : stepR rows i rs = .nx i' rs') : runR rows (k + 1) i rs = (runR rows k i' rs').up := by rw [runR_succ, if_neg g, e]
theorem aftR_step {k i i' : Nat} {rs rs' : List Tr} (g : i ≠ rows.length) (e : stepR rows i rs = .nx i' rs') : aftR rows (k + 1) i rs = (aftR rows k i' rs').map fun p => (p.1, p.2.1, p.2.2 + 1) := by rw [aftR_succ, if_neg g, e]
theorem goR_out : ∀ {k j : Nat} {i : Nat} {rs : List Tr} {p : Nat × List Tr}, goR rows k i rs = some p → j < k → runR rows j i rs = .out
  | 0, j, i, rs, p, h, hj => absurd hj (Nat.not_lt_zero j)
  | k + 1, 0, i, rs, p, h, hj => by
    obtain ⟨g, _⟩ := goR_one h
    unfold runR
    rw [if_neg g]
  | k + 1, j + 1, i, rs, p, h, hj => by
    obtain ⟨g, i1, rs1, e, h⟩ := goR_one h
    rw [runR_step g e, goR_out h (by omega)]; rfl
theorem goR_end : ∀ {k : Nat} {i : Nat} {rs : List Tr} {i' : Nat} {rs' : List Tr}, goR rows k i rs = some (i', rs') → i' ≠ rows.length → runR rows k i rs = .out
  | 0, i, rs, i', rs', h, n => by cases h; unfold runR; rw [if_neg n]
  | k + 1, i, rs, i', rs', h, n => by
    obtain ⟨g, i1, rs1, e, h⟩ := goR_one h
    rw [runR_step g e, goR_end h n]; rfl
theorem goR_large : ∀ {k j : Nat} {i : Nat} {rs : List Tr} {i' : Nat} {rs' : List Tr}, goR rows k i rs = some (i', rs') → i' ≠ rows.length → stepR rows i' rs' = .large → k < j → runR rows j i rs = .large ∧ aftR rows j i rs = none
  | _, 0, _, _, _, _, _, _, _, hj => absurd hj (Nat.not_lt_zero _)
  | 0, j + 1, i, rs, i', rs', h, n, e, hj => by
    cases h
    rw [runR_succ, aftR_succ, if_neg n, if_neg n, e]
    exact ⟨rfl, rfl⟩
  | k + 1, j + 1, i, rs, i', rs', h, n, e, hj => by
    obtain ⟨g, i1, rs1, e1, h⟩ := goR_one h
    obtain ⟨h1, h2⟩ := goR_large h n e (by omega : k < j)
    rw [runR_step g e1, aftR_step g e1, h1, h2]; exact ⟨rfl, rfl⟩
theorem goR_aft : ∀ {k j : Nat} {i : Nat} {rs : List Tr} {p : Nat × List Tr}, goR rows k i rs = some p → j ≤ k → ∃ i' rs', aftR rows j i rs = some (i', rs', j)
  | k, 0, i, rs, p, h, hj => ⟨i, rs, rfl⟩
  | 0, j + 1, i, rs, p, h, hj => absurd hj (by omega)
  | k + 1, j + 1, i, rs, p, h, hj => by
    obtain ⟨g, i1, rs1, e, h⟩ := goR_one h
    obtain ⟨i', rs', e'⟩ := goR_aft h (by omega : j ≤ k)
    rw [aftR_step g e, e']
    exact ⟨i', rs', rfl⟩
end
theorem regT_set {rs : List Tr} {a b : Nat} {t : Tr} : regT (rs.set a t) b = if a = b ∧ a < rs.length then t else regT rs b := by
  unfold regT
  rw [List.getD_eq_getElem?_getD, List.getD_eq_getElem?_getD, List.getElem?_set]
  by_cases h : a = b
  · subst h
    by_cases g : a < rs.length
    · rw [if_pos rfl, if_pos g, if_pos ⟨rfl, g⟩]; rfl
    · rw [if_pos rfl, if_neg g, if_neg (fun q => g q.2), List.getElem?_eq_none (by omega)]
  · rw [if_neg h, if_neg (fun q => h q.1)]
theorem regT_self {rs : List Tr} {a : Nat} {t : Tr} (h : a < rs.length) : regT (rs.set a t) a = t := by rw [regT_set, if_pos ⟨rfl, h⟩]
theorem regT_other {rs : List Tr} {a b : Nat} {t : Tr} (h : a ≠ b) : regT (rs.set a t) b = regT rs b := by rw [regT_set, if_neg (fun q => h q.1)]
/-- a comparison of two numbers -/
theorem dci_run {p : Int → Int → Bool} {i j : Int} {q : D → Prop} {e : Str → Prop} (h1 : p i j = true → q (.bl true)) (h2 : p i j = false → q (.bl false)) : (dCI p (.int i) (.int j)).run q e := by
  show q (.bl (p i j))
  cases h : p i j with
  | true => exact h1 h
  | false => exact h2 h
end NV

set_option Elab.async false
set_option linter.all false
set_option maxRecDepth 100000
set_option maxHeartbeats 400000
/-! # programs in programs, registers that do not count -/
namespace NV
open PySem PySem.Spec PyProof.Rows L2
open Evl (Ex)
/-- the first w registers are alike -/
def Alike (w : Nat) (rs rs' : List Tr) : Prop := ∀ a, a < w → regT rs a = regT rs' a
theorem Alike.refl (w : Nat) (rs : List Tr) : Alike w rs rs := fun _ _ => rfl
theorem Alike.set {w : Nat} {rs rs' : List Tr} (h : Alike w rs rs') {a : Nat} {t : Tr} (h1 : a < rs.length) (h2 : a < rs'.length) : Alike w (rs.set a t) (rs'.set a t) := fun b hb => by
  rw [regT_set, regT_set]
  by_cases g : a = b
  · rw [if_pos ⟨g, h1⟩, if_pos ⟨g, h2⟩]
  · rw [if_neg (fun z => g z.1), if_neg (fun z => g z.1)]
    exact h b hb
/-- a step of programs whose registers are alike -/
theorem alike_step {w : Nat} {rows : List Row} (ok : OkPrg w rows) {i i' : Nat} {rs rs' r1 : List Tr} (h : Alike w rs rs') (hl : w ≤ rs.length) (hl' : w ≤ rs'.length) (e : stepR rows i rs = .nx i' r1) : ∃ r1', stepR rows i rs' = .nx i' r1' ∧ Alike w r1 r1' ∧ r1'.length = rs'.length := by
  unfold stepR at e ⊢
  cases q : rows[i]? with
  | none =>
    rw [q] at e
    cases e
    exact ⟨rs', rfl, h, rfl⟩
  | some r =>
    rw [q] at e
    have o := ok i r q
    cases r with
    | jump a n =>
      dsimp only at e ⊢
      rw [← h a o.1]
      by_cases g : regT rs a = .l
      · rw [if_pos g] at e ⊢; cases e; exact ⟨rs', rfl, h, rfl⟩
      · rw [if_neg g] at e ⊢; cases e; exact ⟨rs', rfl, h, rfl⟩
    | set a t =>
      have ha : a < w := o a (List.mem_cons_self ..)
      cases e
      exact ⟨_, rfl, h.set (by omega) (by omega), List.length_set ..⟩
    | move a b =>
      have ha : a < w := o a (List.mem_cons_self ..)
      have hb : b < w := o b (by show b ∈ [a, b]; simp)
      cases e
      refine ⟨_, rfl, ?_, List.length_set ..⟩
      rw [← h b hb]
      exact h.set (by omega) (by omega)
    | cons a b c =>
      have ha : a < w := o a (List.mem_cons_self ..)
      have hb : b < w := o b (by show b ∈ [a, b, c]; simp)
      have hc : c < w := o c (by show c ∈ [a, b, c]; simp)
      dsimp only at e ⊢
      rw [← h b hb, ← h c hc]
      by_cases g : 200000 < 1 + (regT rs b).enc.length + (regT rs c).enc.length
      · rw [if_pos g] at e; cases e
      · rw [if_neg g] at e ⊢
        cases e
        exact ⟨_, rfl, h.set (by omega) (by omega), List.length_set ..⟩
    | head a b =>
      have ha : a < w := o a (List.mem_cons_self ..)
      have hb : b < w := o b (by show b ∈ [a, b]; simp)
      cases e
      refine ⟨_, rfl, ?_, List.length_set ..⟩
      rw [← h b hb]
      exact h.set (by omega) (by omega)
    | tail a b =>
      have ha : a < w := o a (List.mem_cons_self ..)
      have hb : b < w := o b (by show b ∈ [a, b]; simp)
      cases e
      refine ⟨_, rfl, ?_, List.length_set ..⟩
      rw [← h b hb]
      exact h.set (by omega) (by omega)
theorem alike_go {w : Nat} {rows : List Row} (ok : OkPrg w rows) : ∀ {n i i' : Nat} {rs rs' r1 : List Tr}, Alike w rs rs' → w ≤ rs.length → w ≤ rs'.length → goR rows n i rs = some (i', r1) → ∃ r1', goR rows n i rs' = some (i', r1') ∧ Alike w r1 r1' ∧ r1'.length = rs'.length
  | 0, i, i', rs, rs', r1, h, hl, hl', e => by cases e; exact ⟨rs', rfl, h, rfl⟩
  | n + 1, i, i', rs, rs', r1, h, hl, hl', e => by
    obtain ⟨g, i2, r2, e1, e2⟩ := goR_one e
    obtain ⟨r2', s1, s2, s3⟩ := alike_step ok h hl hl' e1
    obtain ⟨r1', t1, t2, t3⟩ := alike_go ok s2 (by rw [step_len e1]; exact hl) (by omega) e2
    exact ⟨r1', by rw [goR_step g s1]; exact t1, t2, by omega⟩
/-- a step of a program that stands in another one -/
theorem emb_step {w : Nat} {pre p suf : List Row} (ok : OkPrg w p) {i i' : Nat} {rs r1 : List Tr} (hi : i < p.length) (e : stepR p i rs = .nx i' r1) : stepR (pre ++ (p ++ suf)) (pre.length + i) rs = .nx (pre.length + i') r1 := by
  have hx : (pre ++ (p ++ suf))[pre.length + i]? = p[i]? := by
    rw [List.getElem?_append_right (by omega), show pre.length + i - pre.length = i by omega, List.getElem?_append_left hi]
  unfold stepR at e ⊢
  rw [hx]
  have hp : p[i]? = some p[i] := List.getElem?_eq_getElem hi
  rw [hp] at e ⊢
  have o := ok i _ hp
  generalize p[i] = r at e o
  cases r with
  | jump a n =>
    dsimp only at e ⊢
    by_cases g : regT rs a = .l
    · rw [if_pos g] at e ⊢; cases e; rfl
    · rw [if_neg g] at e ⊢
      have o2 := o.2.1
      cases e
      congr 1
      omega
  | cons a b c =>
    dsimp only at e ⊢
    by_cases g : 200000 < 1 + (regT rs b).enc.length + (regT rs c).enc.length
    · rw [if_pos g] at e; cases e
    · rw [if_neg g] at e ⊢; cases e; rfl
  | _ => cases e; rfl
theorem emb_go {w : Nat} {pre p suf : List Row} (ok : OkPrg w p) : ∀ {n i i' : Nat} {rs r1 : List Tr}, i ≤ p.length → goR p n i rs = some (i', r1) → goR (pre ++ (p ++ suf)) n (pre.length + i) rs = some (pre.length + i', r1)
  | 0, i, i', rs, r1, hi, e => by cases e; rfl
  | n + 1, i, i', rs, r1, hi, e => by
    obtain ⟨g, i2, r2, e1, e2⟩ := goR_one e
    have hlt : i < p.length := by omega
    rw [goR_step (by rw [List.length_append, List.length_append]; omega) (emb_step ok hlt e1)]
    exact emb_go ok (step_at ok hlt e1) e2
theorem emb_large {w : Nat} {pre p suf : List Row} (ok : OkPrg w p) {i : Nat} {rs : List Tr} (hi : i < p.length) (e : stepR p i rs = .large) : stepR (pre ++ (p ++ suf)) (pre.length + i) rs = .large := by
  have hx : (pre ++ (p ++ suf))[pre.length + i]? = p[i]? := by
    rw [List.getElem?_append_right (by omega), show pre.length + i - pre.length = i by omega, List.getElem?_append_left hi]
  unfold stepR at e ⊢
  rw [hx]
  have hp : p[i]? = some p[i] := List.getElem?_eq_getElem hi
  rw [hp] at e ⊢
  generalize p[i] = r at e
  cases r with
  | jump a n =>
    dsimp only at e
    by_cases g : regT rs a = .l
    · rw [if_pos g] at e; cases e
    · rw [if_neg g] at e; cases e
  | cons a b c =>
    dsimp only at e ⊢
    by_cases g : 200000 < 1 + (regT rs b).enc.length + (regT rs c).enc.length
    · rw [if_pos g]
    · rw [if_neg g] at e; cases e
  | _ => cases e
/-- a whole that ends has left the part that it was in -/
theorem emb_split {w : Nat} {pre p suf : List Row} (ok : OkPrg w p) : ∀ {n i : Nat} {rs rE : List Tr}, i ≤ p.length → goR (pre ++ (p ++ suf)) n (pre.length + i) rs = some ((pre ++ (p ++ suf)).length, rE) →
    ∃ k rs1, k ≤ n ∧ goR p k i rs = some (p.length, rs1) ∧ goR (pre ++ (p ++ suf)) (n - k) (pre.length + p.length) rs1 = some ((pre ++ (p ++ suf)).length, rE)
  | n, i, rs, rE, hi, h => by
    by_cases g : i = p.length
    · subst g
      exact ⟨0, rs, Nat.zero_le _, rfl, h⟩
    · have hlt : i < p.length := by omega
      cases n with
      | zero =>
        have e : some (pre.length + i, rs) = some ((pre ++ (p ++ suf)).length, rE) := h
        injection e with e
        injection e with e1 e2
        rw [List.length_append, List.length_append] at e1
        omega
      | succ n =>
        obtain ⟨g1, i2, r2, e1, e2⟩ := goR_one h
        cases q : stepR p i rs with
        | large => rw [emb_large ok hlt q] at e1; cases e1
        | nx i' r' =>
          rw [emb_step ok hlt q] at e1
          cases e1
          obtain ⟨k, rs1, k1, k2, k3⟩ := emb_split ok (step_at ok hlt q) e2
          refine ⟨k + 1, rs1, by omega, by rw [goR_step g q]; exact k2, ?_⟩
          rw [show n + 1 - (k + 1) = n - k by omega]
          exact k3
/-- registers are set back -/
theorem clean_go {m : Nat} {rs : List Tr} (hl : m ≤ rs.length) : ∀ j, j ≤ m - 1 → ∃ rs', goR (clean m) j 0 rs = some (j, rs') ∧ rs'.length = rs.length ∧ regT rs' 0 = regT rs 0 ∧ ∀ a, 1 ≤ a → a ≤ j → regT rs' a = .l
  | 0, _ => ⟨rs, rfl, rfl, rfl, fun a h1 h2 => absurd h1 (by omega)⟩
  | j + 1, hj => by
    obtain ⟨r1, g1, g2, g3, g4⟩ := clean_go (m := m) hl j (by omega)
    have hx : (clean m)[j]? = some (.set (j + 1) .l) := by
      unfold clean
      rw [List.getElem?_map, List.getElem?_range (by omega)]; rfl
    have hln : (clean m).length = m - 1 := by simp [clean]
    have hs : stepR (clean m) j r1 = .nx (j + 1) (r1.set (j + 1) .l) := by
      unfold stepR
      rw [hx]
    refine ⟨r1.set (j + 1) .l, ?_, by rw [List.length_set]; exact g2, by rw [regT_other (by omega)]; exact g3, fun a h1 h2 => ?_⟩
    · rw [goR_add g1, goR_step (by omega) hs]; rfl
    · by_cases q : a = j + 1
      · subst q
        exact regT_self (by omega)
      · rw [regT_other (by omega)]
        exact g4 a h1 (by omega)
/-- where a run ends, and back -/
theorem done_go {rows : List Row} : ∀ {n i : Nat} {rs : List Tr} {t : Tr} {c : Nat}, runR rows n i rs = .done t c → ∃ rs', goR rows c i rs = some (rows.length, rs') ∧ t = regT rs' 0 ∧ c ≤ n
  | 0, i, rs, t, c, h => by
    unfold runR at h
    by_cases g : i = rows.length
    · rw [if_pos g] at h
      cases h
      exact ⟨rs, by rw [← g]; rfl, rfl, Nat.le_refl _⟩
    · rw [if_neg g] at h; cases h
  | n + 1, i, rs, t, c, h => by
    rw [runR_succ] at h
    by_cases g : i = rows.length
    · rw [if_pos g] at h
      cases h
      exact ⟨rs, by rw [← g]; rfl, rfl, Nat.zero_le _⟩
    · rw [if_neg g] at h
      cases e : stepR rows i rs with
      | large => rw [e] at h; cases h
      | nx i' rs' =>
        rw [e] at h
        dsimp only at h
        cases q : runR rows n i' rs' with
        | out => rw [q] at h; cases h
        | large => rw [q] at h; cases h
        | done t' c' =>
          rw [q] at h
          cases h
          obtain ⟨r1, e1, e2, e3⟩ := done_go q
          exact ⟨r1, by rw [goR_step g e]; exact e1, e2, by omega⟩
theorem go_done {rows : List Row} : ∀ {c n i : Nat} {rs rs' : List Tr}, goR rows c i rs = some (rows.length, rs') → c ≤ n → runR rows n i rs = .done (regT rs' 0) c
  | 0, n, i, rs, rs', h, hn => by
    cases h
    cases n <;> (unfold runR; rw [if_pos rfl])
  | c + 1, 0, i, rs, rs', h, hn => absurd hn (by omega)
  | c + 1, n + 1, i, rs, rs', h, hn => by
    obtain ⟨g, i2, r2, e1, e2⟩ := goR_one h
    rw [runR_step g e1, go_done e2 (by omega)]; rfl
def segs : List (Nat × List Row) → List Row
  | [] => []
  | (m, p) :: r => clean m ++ (p ++ segs r)
def segW : List (Nat × List Row) → Nat
  | [] => 0
  | (m, _) :: r => (m - 1) + segW r
/-- what programs return, one after the other, and the steps -/
def Res : List (List Row) → Tr → Tr → Nat → Prop
  | [], x, z, n => z = x ∧ n = 0
  | p :: ps, x, z, n => ∃ k rs' n', goR p k 0 (reg0 x) = some (p.length, rs') ∧ Res ps (regT rs' 0) z n' ∧ n = k + n'
def SegOk (L : List (Nat × List Row)) : Prop := ∀ s ∈ L, OkPrg s.1 s.2 ∧ 1 ≤ s.1 ∧ s.1 ≤ 20
theorem clean_length (m : Nat) : (clean m).length = m - 1 := by simp [clean]
theorem alike_clean {m : Nat} {rs : List Tr} (h : ∀ a, 1 ≤ a → a ≤ m - 1 → regT rs a = .l) : Alike m (reg0 (regT rs 0)) rs := fun a ha => by
  cases a with
  | zero => rfl
  | succ a =>
    rw [h (a + 1) (by omega) (by omega)]
    show (List.replicate 19 Tr.l).getD a .l = .l
    rw [List.getD_eq_getElem?_getD, List.getElem?_replicate]
    split <;> rfl
theorem alike_symm {w : Nat} {rs rs' : List Tr} (h : Alike w rs rs') : Alike w rs' rs := fun a ha => (h a ha).symm
theorem seg_fwd : ∀ (L : List (Nat × List Row)) {x z : Tr} {n : Nat}, SegOk L → Res (L.map (·.2)) x z n → ∀ (pre : List Row) (rs : List Tr), rs.length = 20 → regT rs 0 = x →
    ∃ rs', goR (pre ++ segs L) (n + segW L) pre.length rs = some ((pre ++ segs L).length, rs') ∧ regT rs' 0 = z
  | [], x, z, n, ok, h, pre, rs, hl, hx => by
    obtain ⟨h1, h2⟩ := h
    subst h2
    refine ⟨rs, ?_, by rw [h1, hx]⟩
    show goR (pre ++ []) 0 pre.length rs = some ((pre ++ []).length, rs)
    rw [List.append_nil]; rfl
  | (m, p) :: L, x, z, n, ok, h, pre, rs, hl, hx => by
    obtain ⟨okp, m1, m2⟩ := ok (m, p) List.mem_cons_self
    obtain ⟨k, r1, n', h1, h2, h3⟩ := h
    obtain ⟨rc, c1, c2, c3, c4⟩ := clean_go (m := m) (rs := rs) (by omega) (m - 1) (Nat.le_refl _)
    have al : Alike m (reg0 x) rc := by
      have := alike_clean c4
      rwa [c3, hx] at this
    obtain ⟨rp, p1, p2, p3⟩ := alike_go okp al (by show m ≤ 20; exact m2) (by rw [c2, hl]; exact m2) h1
    have z0 : regT rp 0 = regT r1 0 := (p2 0 (by omega)).symm
    obtain ⟨rs', f1, f2⟩ := seg_fwd L (fun s hs => ok s (List.mem_cons_of_mem _ hs)) h2 (pre ++ (clean m ++ p)) rp (by omega) z0
    have w1 : pre ++ segs ((m, p) :: L) = pre ++ (clean m ++ (p ++ segs L)) := rfl
    have w2 : pre ++ segs ((m, p) :: L) = (pre ++ clean m) ++ (p ++ segs L) := by rw [w1, List.append_assoc]
    have w3 : pre ++ segs ((m, p) :: L) = (pre ++ (clean m ++ p)) ++ segs L := by rw [w1]; simp
    have g1 : goR (pre ++ segs ((m, p) :: L)) (m - 1) (pre.length + 0) rs = some (pre.length + (m - 1), rc) := by
      rw [w1]
      exact emb_go (okPrg_clean m (Nat.le_refl _)) (Nat.zero_le _) c1
    have g2 : goR (pre ++ segs ((m, p) :: L)) k ((pre ++ clean m).length + 0) rc = some ((pre ++ clean m).length + p.length, rp) := by
      rw [w2]
      exact emb_go okp (Nat.zero_le _) p1
    rw [← w3] at f1
    refine ⟨rs', ?_, f2⟩
    show goR (pre ++ segs ((m, p) :: L)) (n + ((m - 1) + segW L)) pre.length rs = _
    rw [show n + ((m - 1) + segW L) = (m - 1) + (k + (n' + segW L)) by omega, goR_add (by rw [Nat.add_zero] at g1; exact g1)]
    have e1 : (pre ++ clean m).length + 0 = pre.length + (m - 1) := by rw [List.length_append, clean_length]; omega
    rw [e1] at g2
    rw [goR_add g2]
    have e2 : (pre ++ clean m).length + p.length = (pre ++ (clean m ++ p)).length := by simp [List.length_append]; omega
    rw [e2]
    exact f1
theorem go_uniq {rows : List Row} {k k' i : Nat} {rs a b : List Tr} (h1 : goR rows k i rs = some (rows.length, a)) (h2 : goR rows k' i rs = some (rows.length, b)) : k = k' ∧ a = b := by
  have e1 := go_done (n := k + k') h1 (by omega)
  have e2 := go_done (n := k + k') h2 (by omega)
  rw [e1] at e2
  injection e2 with _ e
  subst e
  rw [h1] at h2
  injection h2 with e
  injection e with _ e
  exact ⟨rfl, e⟩
theorem seg_bwd : ∀ (L : List (Nat × List Row)) {c : Nat}, SegOk L → ∀ (pre : List Row) (rs rE : List Tr), rs.length = 20 → goR (pre ++ segs L) c pre.length rs = some ((pre ++ segs L).length, rE) →
    ∃ n, Res (L.map (·.2)) (regT rs 0) (regT rE 0) n ∧ n + segW L = c
  | [], c, ok, pre, rs, rE, hl, h => by
    have h0 : goR (pre ++ segs []) 0 pre.length rs = some ((pre ++ segs []).length, rs) := by
      show some (pre.length, rs) = some ((pre ++ []).length, rs)
      rw [List.append_nil]
    obtain ⟨e1, e2⟩ := go_uniq h h0
    subst e1 e2
    exact ⟨0, ⟨rfl, rfl⟩, rfl⟩
  | (m, p) :: L, c, ok, pre, rs, rE, hl, h => by
    obtain ⟨okp, m1, m2⟩ := ok (m, p) List.mem_cons_self
    have w1 : pre ++ segs ((m, p) :: L) = pre ++ (clean m ++ (p ++ segs L)) := rfl
    have w2 : pre ++ segs ((m, p) :: L) = (pre ++ clean m) ++ (p ++ segs L) := by rw [w1, List.append_assoc]
    have w3 : pre ++ segs ((m, p) :: L) = (pre ++ (clean m ++ p)) ++ segs L := by rw [w1]; simp
    obtain ⟨rc, c1, c2, c3, c4⟩ := clean_go (m := m) (rs := rs) (by omega) (m - 1) (Nat.le_refl _)
    rw [w1] at h
    obtain ⟨k1, r1, a1, a2, a3⟩ := emb_split (okPrg_clean m (Nat.le_refl _)) (i := 0) (Nat.zero_le _) h
    have c1' : goR (clean m) (m - 1) 0 rs = some ((clean m).length, rc) := by rw [clean_length]; exact c1
    obtain ⟨e1, e2⟩ := go_uniq a2 c1'
    subst e2
    rw [← w1, w2] at a3
    have e3 : pre.length + (clean m).length = (pre ++ clean m).length + 0 := by rw [List.length_append]; rfl
    rw [e3] at a3
    obtain ⟨k2, r2, b1, b2, b3⟩ := emb_split okp (i := 0) (Nat.zero_le _) a3
    have al : Alike m r1 (reg0 (regT rs 0)) := by
      have := alike_clean c4
      rw [c3] at this
      exact alike_symm this
    obtain ⟨rp, p1, p2, p3⟩ := alike_go okp al (by rw [c2, hl]; exact m2) (by show m ≤ 20; exact m2) b2
    rw [← w2, w3] at b3
    have e4 : (pre ++ clean m).length + p.length = (pre ++ (clean m ++ p)).length := by simp [List.length_append]; omega
    rw [e4] at b3
    have l2 : r2.length = 20 := by
      obtain ⟨_, q1, _, q3⟩ := alike_go okp (Alike.refl m r1) (by rw [c2, hl]; exact m2) (by rw [c2, hl]; exact m2) b2
      rw [b2] at q1
      injection q1 with q1
      injection q1 with _ q1
      rw [q1, q3, c2, hl]
    obtain ⟨n', d1, d2⟩ := seg_bwd L (fun s hs => ok s (List.mem_cons_of_mem _ hs)) (pre ++ (clean m ++ p)) r2 rE l2 b3
    refine ⟨k2 + n', ⟨k2, rp, n', p1, by rw [← p2 0 (by omega)]; exact d1, rfl⟩, ?_⟩
    show k2 + n' + ((m - 1) + segW L) = c
    omega
end NV

set_option Elab.async false
set_option linter.all false
set_option maxRecDepth 100000
set_option maxHeartbeats 400000
/-! # a list taken apart: a, b, c = xs -/
namespace NV
open PySem PySem.Spec PyProof.Rows L2
open Evl (Ex)
section
variable {P : Program} {w : World} {A : Around} {E : Value → Shared → Prop}
theorem lst_draw {itA lA : Addr} {its : Array Value} (ne : lA ≠ itA) : ∀ (k j : Nat) (s : Shared) (Q : List Value → Shared → Prop), s.heap.IsListIter itA lA j → s.heap.IsList lA its → j + k ≤ its.size →
    (∀ h2, h2.IsListIter itA lA (j + k) → Heap.SameBut itA s.heap h2 → Q ((its.toList.drop j).take k) { s with heap := h2 }) → wpAny (model P w) A (draw (.ref itA) k) Q E s
  | 0, j, s, Q, hi, _, _, hQ => by
    have q := hQ s.heap hi (Heap.SameBut.refl ..)
    rw [List.take_zero] at q
    exact wpAny_pure q
  | k + 1, j, s, Q, hi, hl, hle, hQ => by
    have lt : j < its.size := by omega
    have hx : its[j]? = some its[j] := Array.getElem?_eq_getElem lt
    show wpAny _ _ (pyNext (.ref itA) >>= _) Q E s
    refine wpAny_bind (wpAny_pyNext_list_item hi hl hx fun h1 hi1 sb1 => ?_)
    refine wpAny_bind (wpAny_holding (lst_draw ne k (j + 1) _ _ hi1 (hl.extBut sb1.extBut ne) (by omega) fun h2 hi2 sb2 => ?_))
    have e : (its.toList.drop j).take (k + 1) = its[j] :: (its.toList.drop (j + 1)).take k := by
      rw [List.drop_eq_getElem_cons (by simpa using lt), List.take_succ_cons]
      simp
    have q := hQ h2 (by rw [show j + (k + 1) = j + 1 + k by omega]; exact hi2) (sb1.trans sb2)
    rw [e] at q
    exact wpAny_pure q
theorem lst_items {lA : Addr} {its : Array Value} {s : Shared} {Q : List Value → Shared → Prop} (hh : A.handled = none) (hl : s.heap.IsList lA its) (hQ : ∀ h2, Heap.ExtBut s.heap.objs.size s.heap h2 → Q its.toList { s with heap := h2 }) : wpAny (model P w) A (unpackItems (.ref lA) its.size none) Q E s := by
  have ne : lA ≠ s.heap.objs.size := by
    obtain ⟨o, ho, _⟩ := hl
    exact Nat.ne_of_lt (Heap.lt_size ho)
  unfold unpackItems notIterableAtAll
  refine wpAny_bind (wpAny_bind (wpAny_specialOf hl.typeIs slot_list_iter.lookup (wpAny_pure ?_)))
  rw [if_neg (by simp)]
  refine wpAny_bind (wpAny_holding (wpAny_pyIter_list hl ?_))
  refine wpAny_bind (wpAny_holding (lst_draw ne its.size 0 _ _ ⟨_, Heap.get?_push_size _ rfl, rfl, rfl⟩ (hl.push _) (by omega) fun h1 hi1 sb1 => ?_))
  have whole : (its.toList.drop 0).take its.size = its.toList := by
    rw [List.drop_zero]
    exact List.take_of_length_le (Nat.le_of_eq (by simp))
  rw [whole, if_neg (by simp)]
  refine wpAny_bind (wpAny_holding (wpAny_pyNext_list_end hh hi1 ((hl.push _).extBut sb1.extBut ne) (by simp) fun h2 eb2 => ?_))
  rw [if_neg (by simp)]
  exact wpAny_pure (hQ h2 fun b o nb q => eb2 b o nb (sb1.extBut b o nb (Heap.get?_push_of_some _ q)))
end
/-- (a, b, ..) = a list of that length -/
def gLst (n : Nat) (t : TGs) : TG := fun v σ H Q => ∃ a xs, v = .ref a ∧ H a = some (.lst xs) ∧ xs.length = n ∧ t xs σ H Q
theorem pg_lst {X : Cx} {es : List Expr} {k : Nat} {t : TGs} {n : Nat} {pos : Pos} (hc : X.calm = true) (hg : PGs X es t) (hn : (assignEach es X.env).length = n := by rfl) (hst : (assignEach es X.env).findIdx? (·.1) = none := by rfl) : PG X (.Tuple es k pos) (gLst n t) := by
  refine ⟨fun pins s σ H v u Q I rv hw => ?_⟩
  obtain ⟨a, xs, e, hq, hl, hw⟩ := hw
  subst e
  cases rv
  obtain ⟨its, m, ri, ho, hz⟩ := I.lst hq
  have il : s.heap.IsList a its.toArray := ⟨_, ho, rfl, _, rfl⟩
  have en : n = its.toArray.size := by rw [← hl, ri.length]; simp
  rw [assign_Tuple]
  refine wpAny_bind (wpAny_standAt ?_)
  unfold unpack
  rw [hn, hst, en]
  refine wpAny_bind (wpAny_holding (lst_items (I.ok.hd hc) il fun h2 eb => ?_))
  have I2 : Inv X pins σ H { s with heap := h2 } := I.kept (t' := s.toks) fun b o q => eb b o (Nat.ne_of_lt (Heap.lt_size q)) q
  exact hg.run pins _ σ H xs _ Q I2 (by simpa using ri) hw
def fgTL (n : Nat) (f : List D → Env → W Env) : D → Env → W Env
  | .lst ds, ρ => .chk (ds.length = n) (f ds ρ)
  | _, _ => .stuck
theorem pgd_tl {K : PySem.W.Frag} {own vs : List Nat} {n : Nat} {gs : TGs} {fs : List D → Env → W Env} (hs : PGsD K own vs gs fs) : PGD K own vs (gLst n gs) (fgTL n fs) := fun M ρ σ H d v Q e E r h => by
  cases d <;> first | (exact False.elim h) | skip
  obtain ⟨a, xs, rfl, _, h1, h2⟩ := r
  exact ⟨a, xs, rfl, h1, by rw [DxAll.len h2]; exact h.1, hs M ρ σ H _ xs Q e E h2 h.2⟩
end NV

set_option Elab.async false
set_option linter.all false
set_option maxRecDepth 100000
set_option maxHeartbeats 4000000
/-! # one step at a time: lemmas whose goals stay small -/
namespace NV
open PySem PySem.Spec PyProof.Rows L2
open Evl (Ex)
/-- as run, but never unfolded of itself -/
def W.rn {α : Type} (m : W α) (q : α → Prop) (e : Str → Prop) : Prop := m.run q e
theorem w_in {α : Type} {m : W α} {q : α → Prop} {e : Str → Prop} (h : m.rn q e) : m.run q e := h
theorem w_out {α : Type} {m : W α} {q : α → Prop} {e : Str → Prop} (h : m.run q e) : m.rn q e := h
/-- a slot is set -/
class SetC (ρ : Env) (i : Nat) (x : Option D) (ρ' : outParam Env) : Prop where
  eq : ρ.set i x = ρ'
instance {a x l} : SetC (a :: l) 0 x (x :: l) := ⟨rfl⟩
instance {a l n x l'} [h : SetC l n x l'] : SetC (a :: l) (n + 1) x (a :: l') := ⟨by show a :: l.set n x = _; rw [h.eq]⟩
/-- a slot is read -/
class GetC (ρ : Env) (i : Nat) (d : outParam D) : Prop where
  eq : ρ[i]? = some (some d)
instance {d l} : GetC (some d :: l) 0 d := ⟨rfl⟩
instance {a l n d} [h : GetC l n d] : GetC (a :: l) (n + 1) d := ⟨by simpa using h.eq⟩
/-- slots are wiped -/
class WipC (ρ : Env) (vs : List Nat) (ρ' : outParam Env) : Prop where
  eq : wipeD ρ vs = ρ'
instance {ρ} : WipC ρ [] ρ := ⟨rfl⟩
instance {ρ v vs ρ1 ρ2} [h : WipC ρ vs ρ1] [g : SetC ρ1 v none ρ2] : WipC ρ (v :: vs) ρ2 := ⟨by unfold wipeD; rw [h.eq, g.eq]⟩
/-- a def's slots at its start -/
class StartC (n : Nat) (ds : List D) (ρ : outParam Env) : Prop where
  eq : startD n ds = ρ
instance : StartC 0 [] [] := ⟨rfl⟩
instance {k ρ} [h : StartC k [] ρ] : StartC (k + 1) [] (none :: ρ) := ⟨by rw [← h.eq]; unfold startD; simp [List.replicate_succ]⟩
instance {k d ds ρ} [h : StartC k ds ρ] : StartC (k + 1) (d :: ds) (some d :: ρ) := ⟨by rw [← h.eq]; unfold startD; rw [List.map_cons, List.cons_append, List.length_cons, Nat.add_sub_add_right]⟩
class LenC (ρ : Env) (n : outParam Nat) : Prop where
  eq : ρ.length = n
instance : LenC [] 0 := ⟨rfl⟩
instance {a l n} [h : LenC l n] : LenC (a :: l) (n + 1) := ⟨by rw [List.length_cons, h.eq]⟩
class LenD (ds : List D) (n : outParam Nat) : Prop where
  eq : ds.length = n
instance : LenD [] 0 := ⟨rfl⟩
instance {a l n} [h : LenD l n] : LenD (a :: l) (n + 1) := ⟨by rw [List.length_cons, h.eq]⟩
class LenI (ds : List D) (n : Nat) : Prop where
  eq : ds.length = n
instance : LenI [] 0 := ⟨rfl⟩
instance {a l n} [h : LenI l n] : LenI (a :: l) (n + 1) := ⟨by rw [List.length_cons, h.eq]⟩
class LenJ (ds : Env) (n : Nat) : Prop where
  eq : ds.length = n
instance : LenJ [] 0 := ⟨rfl⟩
instance {a l n} [h : LenJ l n] : LenJ (a :: l) (n + 1) := ⟨by rw [List.length_cons, h.eq]⟩
/-- what is wanted of a statement when others stand behind it -/
def Kseq (g : Env → W Out) (q : Out → Prop) (e : Str → Prop) : Out → Prop
  | .nx ρ => (g ρ).rn q e
  | .rt d ρ => q (.rt d ρ)
  | .bk ρ => q (.bk ρ)
  | .ct ρ => q (.ct ρ)
/-- .. of a def's body -/
def Kdef (q : D → Prop) : Out → Prop
  | .rt d _ => q d
  | .nx _ => q .non
  | _ => False
section
variable {q : Out → Prop} {qd : D → Prop} {ql : List D → Prop} {qb : Bool → Prop} {qe : Env → Prop} {qo : Option Int → Prop} {e : Str → Prop} {ρ ρ' ρ1 ρ2 : Env} {f g fa fb : Env → W Out} {fe fe1 fe2 fe3 : Env → W D} {fl : Env → W (List D)} {ft ft1 ft2 : Env → W Bool} {fg : D → Env → W Env} {fgs : List D → Env → W Env}
theorem wd_def {n : Nat} {ds : List D} {fs : Env → W Out} [h : StartC n ds ρ] (k : (fs ρ).rn (Kdef qd) e) : (defF n fs ds).rn qd e := by
  unfold defF
  rw [h.eq]
  refine (fs ρ).mono (fun o p => ?_) (fun _ z => z) k
  cases o <;> exact p
theorem wk_rt {d : D} (h : qd d) : Kdef qd (.rt d ρ) := h
theorem wk_nx (h : qd .non) : Kdef qd (.nx ρ) := h
theorem ws_seq (h : (f ρ).rn (Kseq g q e) e) : (fSeq f g ρ).rn q e := by
  refine (f ρ).mono (fun o p => ?_) (fun _ z => z) h
  cases o <;> exact p
theorem wk_snx (h : (g ρ).rn q e) : Kseq g q e (.nx ρ) := h
theorem wk_srt {d : D} (h : q (.rt d ρ)) : Kseq g q e (.rt d ρ) := h
theorem wk_sbk (h : q (.bk ρ)) : Kseq g q e (.bk ρ) := h
theorem wk_sct (h : q (.ct ρ)) : Kseq g q e (.ct ρ) := h
theorem ws_next (h : q (.nx ρ)) : (fNext ρ).rn q e := h
theorem ws_break (h : q (.bk ρ)) : (fBreak ρ).rn q e := h
theorem ws_cont (h : q (.ct ρ)) : (fCont ρ).rn q e := h
theorem ws_ret (h : (fe ρ).rn (fun d => q (.rt d ρ)) e) : (fRet fe ρ).rn q e := h
theorem ws_retN (h : q (.rt .non ρ)) : (fRetN ρ).rn q e := h
theorem ws_drop (h : (fe ρ).rn (fun _ => q (.nx ρ)) e) : (fDrop fe ρ).rn q e := h
/-- .. one slot more is told -/
def Kset (i : Nat) (ρ : Env) (q : Out → Prop) (d : D) : Prop := q (.nx (ρ.set i (some d)))
theorem ws_set {i : Nat} (h : (fe ρ).rn (Kset i ρ q) e) : (fSet i fe ρ).rn q e := h
theorem wk_set {i : Nat} {d : D} [s : SetC ρ i (some d) ρ'] (h : q (.nx ρ')) : Kset i ρ q d := by
  unfold Kset; rw [s.eq]; exact h
def Kasg (fg : D → Env → W Env) (ρ : Env) (q : Out → Prop) (e : Str → Prop) (d : D) : Prop := (fg d ρ).rn (fun ρ' => q (.nx ρ')) e
theorem ws_asg (h : (fe ρ).rn (Kasg fg ρ q e) e) : (fAsg fe fg ρ).rn q e := h
theorem wk_asg {d : D} (h : (fg d ρ).rn (fun ρ' => q (.nx ρ')) e) : Kasg fg ρ q e d := h
theorem wg_n {i : Nat} {d : D} [s : SetC ρ i (some d) ρ'] (h : qe ρ') : (fgN i d ρ).rn qe e := by
  show qe (ρ.set i (some d))
  rw [s.eq]; exact h
theorem wg_0 (h : qe ρ) : (fgs0 [] ρ).rn qe e := h
theorem wg_1 {d : D} {ds : List D} (h : (fg d ρ).rn (fun ρ1 => (fgs ds ρ1).rn qe e) e) : (fgs1 fg fgs (d :: ds) ρ).rn qe e := h
theorem wg_tC {n : Nat} {ds : List D} [l : LenI ds n] (h : (fgs ds ρ).rn qe e) : (fgT n fgs (.tup ds) ρ).rn qe e := ⟨l.eq, h⟩
theorem wg_tlC {n : Nat} {ds : List D} [l : LenI ds n] (h : (fgs ds ρ).rn qe e) : (fgTL n fgs (.lst ds) ρ).rn qe e := ⟨l.eq, h⟩
theorem wg_t {n : Nat} {ds : List D} (hl : ds.length = n) (h : (fgs ds ρ).rn qe e) : (fgT n fgs (.tup ds) ρ).rn qe e := ⟨hl, h⟩
theorem wg_tl {n : Nat} {ds : List D} (hl : ds.length = n) (h : (fgs ds ρ).rn qe e) : (fgTL n fgs (.lst ds) ρ).rn qe e := ⟨hl, h⟩
/-- a test's two ways -/
def Kif (A B : Prop) (b : Bool) : Prop := if b = true then A else B
theorem wk_t {A B : Prop} (h : A) : Kif A B true := h
theorem wk_f {A B : Prop} (h : B) : Kif A B false := h
theorem wk_if {A B : Prop} {b : Bool} (h1 : b = true → A) (h2 : b = false → B) : Kif A B b := by
  cases b with
  | true => exact h1 rfl
  | false => exact h2 rfl
theorem wk_dec {A B p : Prop} [Decidable p] (h1 : p → A) (h2 : ¬ p → B) : Kif A B (decide p) := by
  by_cases h : p
  · rw [decide_eq_true h]; exact h1 h
  · rw [decide_eq_false h]; exact h2 h
theorem wk_yes {A B p : Prop} [Decidable p] (h : p) (k : A) : Kif A B (decide p) := by rw [decide_eq_true h]; exact k
theorem wk_no {A B p : Prop} [Decidable p] (h : ¬ p) (k : B) : Kif A B (decide p) := by rw [decide_eq_false h]; exact k
theorem wk_tt {A B : Prop} {b : Bool} (h : b = true) (k : A) : Kif A B b := by rw [h]; exact k
theorem wk_ff {A B : Prop} {b : Bool} (h : b = false) (k : B) : Kif A B b := by rw [h]; exact k
theorem wk_nn {A B p : Prop} [Decidable p] (h : ¬ p) (k : A) : Kif A B (!decide p) := by rw [decide_eq_false h]; exact k
theorem wk_ny {A B p : Prop} [Decidable p] (h : p) (k : B) : Kif A B (!decide p) := by rw [decide_eq_true h]; exact k
theorem ws_if (h : (ft ρ).rn (Kif ((fa ρ).rn q e) ((fb ρ).rn q e)) e) : (fIfS ft fa fb ρ).rn q e := h
theorem we_if (h : (ft ρ).rn (Kif ((fe1 ρ).rn qd e) ((fe2 ρ).rn qd e)) e) : (fIf ft fe1 fe2 ρ).rn qd e := h
theorem ws_raise {n : Str} (h : e n) : (fRaise n ρ).rn q e := h
def Kaug2 (f : D → D → W D) (i : Nat) (x : D) (ρ : Env) (q : Out → Prop) (e : Str → Prop) (y : D) : Prop := (f x y).rn (Kset i ρ q) e
theorem ws_aug {i : Nat} {x : D} {f : D → D → W D} [s : GetC ρ i x] (h : (fe ρ).rn (Kaug2 f i x ρ q e) e) : (fAug i fe f ρ).rn q e := by
  show (fV i ρ).rn _ e
  unfold fV
  rw [s.eq]; exact h
theorem wk_augi {f : Int → Int → Int} {i : Nat} {x y : Int} [s : SetC ρ i (some (.int (f x y))) ρ'] (h : q (.nx ρ')) : Kaug2 (dIp f) i (.int x) ρ q e (.int y) := by
  show Kset i ρ q (.int (f x y))
  exact wk_set h
def Kpar (i j : Nat) (ρ : Env) (q : Out → Prop) : List D → Prop
  | [a, b] => q (.nx ((ρ.set i (some a)).set j (some b)))
  | _ => False
theorem ws_par {i j : Nat} (h : (fl ρ).rn (Kpar i j ρ q) e) : (fPar i j fl ρ).rn q e := by
  refine (fl ρ).mono (fun ds p => ?_) (fun _ z => z) h
  match ds, p with
  | [a, b], p => exact p
theorem wk_par {i j : Nat} {a b : D} [s1 : SetC ρ i (some a) ρ1] [s2 : SetC ρ1 j (some b) ρ2] (h : q (.nx ρ2)) : Kpar i j ρ q [a, b] := by
  show q (.nx ((ρ.set i (some a)).set j (some b)))
  rw [s1.eq, s2.eq]; exact h
theorem ws_app {i : Nat} {ds : List D} [s : GetC ρ i (.lst ds)] (h : (fe ρ).rn (fun d => ds.length < 16777216 ∧ Kset i ρ q (.lst (ds ++ [d]))) e) : (fApp i fe ρ).rn q e := by
  show (fV i ρ).rn _ e
  unfold fV
  rw [s.eq]; exact h
def Kext (i : Nat) (ds : List D) (ρ : Env) (q : Out → Prop) : D → Prop
  | .lst es => ds.length + es.length ≤ 16777216 ∧ Kset i ρ q (.lst (ds ++ es))
  | _ => False
theorem ws_ext {i : Nat} {ds : List D} [s : GetC ρ i (.lst ds)] (h : (fe ρ).rn (Kext i ds ρ q) e) : (fExt i fe ρ).rn q e := by
  show (fV i ρ).rn _ e
  unfold fV
  rw [s.eq]
  refine (fe ρ).mono (fun d p => ?_) (fun _ z => z) h
  cases d <;> first | exact p | exact False.elim p
theorem wk_ext {i : Nat} {ds es : List D} (hl : ds.length + es.length ≤ 16777216) (h : Kset i ρ q (.lst (ds ++ es))) : Kext i ds ρ q (.lst es) := ⟨hl, h⟩
def Ksub (i : Nat) (ds : List D) (d : D) (ρ : Env) (q : Out → Prop) : D → Prop
  | .int k => ∃ j, ixN ds.length k = some j ∧ Kset i ρ q (.lst (ds.set j d))
  | _ => False
theorem ws_sub {i : Nat} {ds : List D} {fk : Env → W D} [s : GetC ρ i (.lst ds)] (h : (fe ρ).rn (fun d => (fk ρ).rn (Ksub i ds d ρ q) e) e) : (fSub i fk fe ρ).rn q e := by
  show (fe ρ).rn _ e
  refine (fe ρ).mono (fun d p => ?_) (fun _ z => z) h
  show (fV i ρ).rn _ e
  unfold fV
  rw [s.eq]
  refine (fk ρ).mono (fun k p => ?_) (fun _ z => z) p
  cases k <;> first | (exact False.elim p) | skip
  obtain ⟨j, e1, p⟩ := p
  show (dSet (.lst ds) (.int _) d).rn _ e
  dsimp only [dSet]
  rw [e1]
  exact p
theorem wk_sub {i k : Nat} {ds : List D} {d : D} (hk : k < ds.length) (h : Kset i ρ q (.lst (ds.set k d))) : Ksub i ds d ρ q (.int (k : Int)) := by
  refine ⟨k, ?_, h⟩
  unfold ixN
  rw [if_pos (by omega)]
  rw [if_pos (by omega)]; simp
theorem ws_pop {i j : Nat} {ds : List D} {x : D} [s : GetC ρ j (.lst (ds ++ [x]))] [s1 : SetC ρ j (some (.lst ds)) ρ1] [s2 : SetC ρ1 i (some x) ρ2] (h : q (.nx ρ2)) : (fPop i j ρ).rn q e := by
  show (fV j ρ).rn _ e
  unfold fV
  rw [s.eq]
  show (dPop (.lst (ds ++ [x]))).rn _ e
  refine dPop_snoc ?_
  show q (.nx ((ρ.set j (some (.lst ds))).set i (some x)))
  rw [s1.eq, s2.eq]; exact h
theorem ws_pop0 {j : Nat} {ds : List D} {x : D} [s : GetC ρ j (.lst (ds ++ [x]))] [s1 : SetC ρ j (some (.lst ds)) ρ1] (h : q (.nx ρ1)) : (fPop0 j ρ).rn q e := by
  show (fV j ρ).rn _ e
  unfold fV
  rw [s.eq]
  show (dPop (.lst (ds ++ [x]))).rn _ e
  refine dPop_snoc ?_
  show q (.nx (ρ.set j (some (.lst ds))))
  rw [s1.eq]; exact h
def Klist (q : D → Prop) : D → Prop
  | .lst ds => q (.lst ds)
  | _ => False
theorem we_list (h : (fe ρ).rn (Klist qd) e) : (fList fe ρ).rn qd e := by
  refine (fe ρ).mono (fun d p => ?_) (fun _ z => z) h
  cases d <;> first | exact p | exact False.elim p
theorem wk_list {ds : List D} (h : qd (.lst ds)) : Klist qd (.lst ds) := h
theorem ws_setf {i : Nat} (h : (fe ρ).rn (Klist (Kset i ρ q)) e) : (fSetF i fe ρ).rn q e := we_list h
/-! loops -/
def Kfor (fg : D → Env → W Env) (fb : Env → W Out) (ds : List D) (q : Out → Prop) (e : Str → Prop) : Out → Prop
  | .nx ρ => (forGo fg fb ds ρ).rn q e
  | .ct ρ => (forGo fg fb ds ρ).rn q e
  | .bk ρ => q (.nx ρ)
  | .rt d ρ => q (.rt d ρ)
theorem ws_for {fi : Env → W (List D)} (h : (fi ρ).rn (fun ds => (forGo fg fb ds ρ).rn q e) e) : (fFor fi fg fb ρ).rn q e := h
theorem ws_forT (h : (fl ρ).rn (fun ds => ds.length ≤ 16777216 ∧ (forGo fg fb ds ρ).rn q e) e) : (fFor (fItems (fTup fl)) fg fb ρ).rn q e := h
theorem wl_nil (h : q (.nx ρ)) : (forGo fg fb [] ρ).rn q e := h
theorem wl_cons {d : D} {ds : List D} (h : (fg d ρ).rn (fun ρ1 => (fb ρ1).rn (Kfor fg fb ds q e) e) e) : (forGo fg fb (d :: ds) ρ).rn q e := by
  refine (fg d ρ).mono (fun ρ1 p => (fb ρ1).mono (fun o p => ?_) (fun _ z => z) p) (fun _ z => z) h
  cases o <;> exact p
theorem wk_fnx {ds : List D} (h : (forGo fg fb ds ρ).rn q e) : Kfor fg fb ds q e (.nx ρ) := h
theorem wk_fct {ds : List D} (h : (forGo fg fb ds ρ).rn q e) : Kfor fg fb ds q e (.ct ρ) := h
theorem wk_fbk {ds : List D} (h : q (.nx ρ)) : Kfor fg fb ds q e (.bk ρ) := h
theorem wk_frt {ds : List D} {d : D} (h : q (.rt d ρ)) : Kfor fg fb ds q e (.rt d ρ) := h
theorem wt_nx {I : Env → Prop} (h : I ρ) : Turn1 q I (.nx ρ) := h
theorem wt_ct {I : Env → Prop} (h : I ρ) : Turn1 q I (.ct ρ) := h
theorem wt_bk {I : Env → Prop} (h : q (.nx ρ)) : Turn1 q I (.bk ρ) := h
theorem wt_rt {I : Env → Prop} {d : D} (h : q (.rt d ρ)) : Turn1 q I (.rt d ρ) := h
def Kwh (I : Nat → Env → Prop) (n : Nat) (q : Out → Prop) : Out → Prop
  | .nx ρ => ∃ m, m < n ∧ I m ρ
  | .ct ρ => ∃ m, m < n ∧ I m ρ
  | .bk ρ => q (.nx ρ)
  | .rt d ρ => q (.rt d ρ)
theorem ws_while (I : Nat → Env → Prop) (h0 : ∃ n, I n ρ) (h : ∀ n ρ, I n ρ → (ft ρ).rn (Kif ((fb ρ).rn (Kwh I n q) e) (q (.nx ρ))) e) : (fWhile ft fb ρ).rn q e := by
  refine ⟨I, h0, fun n ρ hI => (ft ρ).mono (fun b p => ?_) (fun _ z => z) (h n ρ hI)⟩
  cases b with
  | false => exact p
  | true =>
    refine (fb ρ).mono (fun o p => ?_) (fun _ z => z) p
    cases o <;> exact p
theorem wk_wnx {I : Nat → Env → Prop} {n m : Nat} (hm : m < n) (h : I m ρ) : Kwh I n q (.nx ρ) := ⟨m, hm, h⟩
theorem wk_wct {I : Nat → Env → Prop} {n m : Nat} (hm : m < n) (h : I m ρ) : Kwh I n q (.ct ρ) := ⟨m, hm, h⟩
theorem wk_wbk {I : Nat → Env → Prop} {n : Nat} (h : q (.nx ρ)) : Kwh I n q (.bk ρ) := h
theorem wk_wrt {I : Nat → Env → Prop} {n : Nat} {d : D} (h : q (.rt d ρ)) : Kwh I n q (.rt d ρ) := h
theorem we_lc {fi : Env → W (List D)} {vs : List Nat} [s : WipC ρ vs ρ'] (h : (fi ρ).rn (fun ds => ds.length ≤ 16777216 ∧ (lcGo fg ft fe ρ' ds).rn (fun es => qd (.lst es)) (fun _ => False)) e) : (fLc fi fg ft fe vs ρ).rn qd e := by
  refine (fi ρ).mono (fun ds p => ?_) (fun _ z => z) h
  refine ⟨p.1, ?_⟩
  rw [s.eq]
  exact p.2
theorem wc_nil (h : ql []) : (lcGo fg ft fe ρ []).rn ql e := h
theorem wc_cons {d : D} {ds : List D} (h : (fg d ρ).rn (fun ρ2 => (ft ρ2).rn (Kif ((fe ρ2).rn (fun y => (lcGo fg ft fe ρ ds).rn (fun r => ql (y :: r)) e) e) ((lcGo fg ft fe ρ ds).rn ql e)) e) e) : (lcGo fg ft fe ρ (d :: ds)).rn ql e := h
theorem we_yes (h : qb true) : (fYes ρ).rn qb e := h
theorem wi_items (h : (fe ρ).rn (fun d => (itemsD d).rn ql e) e) : (fItems fe ρ).rn ql e := h
theorem wi_str {l : List Nat} (h : ql (l.map fun c => .str [c])) : (itemsD (.str l)).rn ql e := h
theorem wi_lst {l : List D} (h : ql l) : (itemsD (.lst l)).rn ql e := h
theorem wi_tup {l : List D} (h : ql l) : (itemsD (.tup l)).rn ql e := h
def Kr1 (q : List D → Prop) : List D → Prop
  | [.int j] => (-(2 ^ 62) ≤ j ∧ j < 2 ^ 62) ∧ q (rangeD 0 j.toNat)
  | _ => False
def Kr2 (q : List D → Prop) : List D → Prop
  | [.int i, .int j] => (-(2 ^ 62) ≤ i ∧ i < 2 ^ 62 ∧ -(2 ^ 62) ≤ j ∧ j < 2 ^ 62) ∧ q (rangeD i (j - i).toNat)
  | _ => False
theorem wi_r1 (h : (fl ρ).rn (Kr1 ql) e) : (fRng1 fl ρ).rn ql e := by
  refine (fl ρ).mono (fun ds p => ?_) (fun _ z => z) h
  match ds, p with
  | [.int j], p => exact p
theorem wi_r2 (h : (fl ρ).rn (Kr2 ql) e) : (fRng2 fl ρ).rn ql e := by
  refine (fl ρ).mono (fun ds p => ?_) (fun _ z => z) h
  match ds, p with
  | [.int i, .int j], p => exact p
theorem wk_r1 {j : Nat} (hj : j < 1000000000) (h : ql (rangeD 0 j)) : Kr1 ql [.int (j : Int)] := by
  refine ⟨⟨?_, ?_⟩, ?_⟩
  · have : (0 : Int) ≤ (j : Int) := Int.natCast_nonneg j
    exact Int.le_trans (by decide) this
  · have : ((j : Nat) : Int) < ((1000000000 : Nat) : Int) := by omega
    exact Int.lt_trans this (by decide)
  · simpa using h
theorem wk_r2 {i j : Nat} (hi : i < 1000000000) (hj : j < 1000000000) (h : ql (rangeD (i : Int) (j - i))) : Kr2 ql [.int (i : Int), .int (j : Int)] := by
  have a1 : (0 : Int) ≤ (i : Int) := Int.natCast_nonneg i
  have a2 : (0 : Int) ≤ (j : Int) := Int.natCast_nonneg j
  have b1 : ((i : Nat) : Int) < ((1000000000 : Nat) : Int) := by omega
  have b2 : ((j : Nat) : Int) < ((1000000000 : Nat) : Int) := by omega
  refine ⟨⟨Int.le_trans (by decide) a1, Int.lt_trans b1 (by decide), Int.le_trans (by decide) a2, Int.lt_trans b2 (by decide)⟩, ?_⟩
  have e : ((j : Int) - (i : Int)).toNat = j - i := by omega
  rw [e]; exact h
def Ken (q : List D → Prop) : List D → Prop
  | [.lst ds] => q (enumD ds)
  | _ => False
theorem wi_en (h : (fl ρ).rn (Ken ql) e) : (fEnum fl ρ).rn ql e := by
  refine (fl ρ).mono (fun ds p => ?_) (fun _ z => z) h
  match ds, p with
  | [.lst ds], p => exact p
theorem wk_en {ds : List D} (h : ql (enumD ds)) : Ken ql [.lst ds] := h
theorem wi_rev (h : (fe ρ).rn (fun d => (revD d).rn ql e) e) : (fRev fe ρ).rn ql e := h
theorem wi_revl {l : List D} (h : ql l.reverse) : (revD (.lst l)).rn ql e := h
theorem wi_revt {l : List D} (h : ql l.reverse) : (revD (.tup l)).rn ql e := h
/-! expressions -/
theorem we_v {i : Nat} {d : D} [s : GetC ρ i d] (h : qd d) : (fV i ρ).rn qd e := by
  unfold fV
  rw [s.eq]; exact h
theorem we_c {d : D} (h : qd d) : (fC d ρ).rn qd e := h
theorem we_op {f : D → D → W D} (h : (fe1 ρ).rn (fun x => (fe2 ρ).rn (fun y => (f x y).rn qd e) e) e) : (fOp f fe1 fe2 ρ).rn qd e := h
theorem we_un {f : D → W D} (h : (fe ρ).rn (fun x => (f x).rn qd e) e) : (fUn f fe ρ).rn qd e := h
theorem wa_nil (h : ql []) : (fNil ρ).rn ql e := h
theorem wa_cons (h : (fe ρ).rn (fun x => (fl ρ).rn (fun xs => ql (x :: xs)) e) e) : (fCons fe fl ρ).rn ql e := h
theorem we_tup (h : (fl ρ).rn (fun ds => ds.length ≤ 16777216 ∧ qd (.tup ds)) e) : (fTup fl ρ).rn qd e := h
theorem we_lst (h : (fl ρ).rn (fun ds => ds.length ≤ 16777216 ∧ qd (.lst ds)) e) : (fLst fl ρ).rn qd e := h
theorem wlen {n : Nat} {ds : List D} {A : Prop} (h : ds.length = n) (hn : n ≤ 16777216) (k : A) : ds.length ≤ 16777216 ∧ A := ⟨by omega, k⟩
theorem wlenD {n : Nat} {ds : List D} {A : Prop} [h : LenD ds n] (hn : n ≤ 16777216) (k : A) : ds.length ≤ 16777216 ∧ A := ⟨by rw [h.eq]; exact hn, k⟩
theorem wo_no (h : qo none) : (fNo ρ).rn qo e := h
def KI (q : Option Int → Prop) : D → Prop
  | .int i => q (some i)
  | _ => False
theorem wo_some (h : (fe ρ).rn (KI qo) e) : (fSome fe ρ).rn qo e := by
  refine (fe ρ).mono (fun d p => ?_) (fun _ z => z) h
  cases d <;> first | exact p | exact False.elim p
theorem wk_i {i : Int} (h : qo (some i)) : KI qo (.int i) := h
theorem we_sl {fo fh : Env → W (Option Int)} (h : (fe ρ).rn (fun x => (fo ρ).rn (fun lo => (fh ρ).rn (fun hi => (dSl x lo hi).rn qd e) e) e) e) : (fSl fe fo fh ρ).rn qd e := h
def KB (q : Bool → Prop) : D → Prop
  | .bl b => q b
  | _ => False
theorem wk_b {b : Bool} (h : qb b) : KB qb (.bl b) := h
theorem we_t (h : (fe ρ).rn (KB qb) e) : (fT fe ρ).rn qb e := by
  refine (fe ρ).mono (fun d p => ?_) (fun _ z => z) h
  cases d <;> first | exact p | exact False.elim p
theorem we_andV (h : (fe1 ρ).rn (KB (Kif ((fe2 ρ).rn qd e) (qd (.bl false)))) e) : (fAndV fe1 fe2 ρ).rn qd e := by
  refine (fe1 ρ).mono (fun d p => ?_) (fun _ z => z) h
  cases d <;> first | exact p | exact False.elim p
theorem we_orV (h : (fe1 ρ).rn (KB (Kif (qd (.bl true)) ((fe2 ρ).rn qd e))) e) : (fOrV fe1 fe2 ρ).rn qd e := by
  refine (fe1 ρ).mono (fun d p => ?_) (fun _ z => z) h
  cases d <;> first | exact p | exact False.elim p
theorem we_notV (h : (fe ρ).rn (KB (fun b => qd (.bl (!b)))) e) : (fNotV fe ρ).rn qd e := by
  refine (fe ρ).mono (fun d p => ?_) (fun _ z => z) h
  cases d <;> first | exact p | exact False.elim p
theorem we_and (h : (ft1 ρ).rn (Kif ((ft2 ρ).rn qb e) (qb false)) e) : (fAnd ft1 ft2 ρ).rn qb e := h
theorem we_or (h : (ft1 ρ).rn (Kif (qb true) ((ft2 ρ).rn qb e)) e) : (fOr ft1 ft2 ρ).rn qb e := h
theorem we_not (h : (ft ρ).rn (fun b => qb (!b)) e) : (fNot ft ρ).rn qb e := h
theorem we_chain {f g : D → D → W D} (h : (fe1 ρ).rn (fun x => (fe2 ρ).rn (fun y => (f x y).rn (KB (Kif ((fe3 ρ).rn (fun w => (g y w).rn qd e) e) (qd (.bl false)))) e) e) e) : (fChain f g fe1 fe2 fe3 ρ).rn qd e := by
  refine (fe1 ρ).mono (fun x p => (fe2 ρ).mono (fun y p => (f x y).mono (fun z p => ?_) (fun _ z => z) p) (fun _ z => z) p) (fun _ z => z) h
  cases z <;> first | exact p | exact False.elim p
theorem we_call {F : List D → W D} (h : (fl ρ).rn (fun ds => (F ds).rn qd e) e) : (fCall F fl ρ).rn qd e := h
theorem we_calm {F : List D → W D} (h : (fl ρ).rn (fun ds => (F ds).rn qd (fun _ => False)) e) : (fCalm F fl ρ).rn qd e := h
theorem we_callS {n : Nat} {F : List D → W D} [s : LenJ ρ n] (h : (fl ρ).rn (fun ds => (F ds).rn qd e) e) : (fCallS n F fl ρ).rn qd e := by
  unfold fCallS
  rw [if_pos s.eq]
  exact h
def Ktry (h : Str → Option D) (q : Out → Prop) (ρ : Env) (n : Str) : Prop := match h n with
  | some d => q (.rt d ρ)
  | none => False
theorem ws_try {h : Str → Option D} (k : (fb ρ).rn q (Ktry h q ρ)) : (fTry fb h ρ).rn q e := k
theorem wk_try {h : Str → Option D} {n : Str} {d : D} (g : h n = some d) (k : q (.rt d ρ)) : Ktry h q ρ n := by
  unfold Ktry
  rw [g]; exact k
end
/-! operations -/
section
variable {qd : D → Prop} {qb : Bool → Prop} {e : Str → Prop}
theorem wo_addi {i j : Int} (h : qd (.int (i + j))) : (dAdd (.int i) (.int j)).rn qd e := h
theorem wo_adds {a b : List Nat} (hl : a.length + b.length ≤ 16777216) (h : qd (.str (a ++ b))) : (dAdd (.str a) (.str b)).rn qd e := ⟨hl, h⟩
theorem wo_addl {a b : List D} (hl : a.length + b.length ≤ 16777216) (h : qd (.lst (a ++ b))) : (dAdd (.lst a) (.lst b)).rn qd e := ⟨hl, h⟩
theorem wo_addt {a b : List D} (hl : a.length + b.length ≤ 16777216) (h : qd (.tup (a ++ b))) : (dAdd (.tup a) (.tup b)).rn qd e := ⟨hl, h⟩
theorem wo_sub {i j : Int} (h : qd (.int (i - j))) : (dSub (.int i) (.int j)).rn qd e := h
theorem wo_neg {i : Int} (h : qd (.int (-i))) : (dNeg (.int i)).rn qd e := h
theorem wo_muls {a : List Nat} {n : Nat} (hn : n < 1000000000) (hl : a.length * n ≤ 10000000) (h : qd (.str (List.replicate n a).flatten)) : (dMul (.str a) (.int (n : Int))).rn qd e := by
  have a1 : (0 : Int) ≤ (n : Int) := Int.natCast_nonneg n
  have b1 : ((n : Nat) : Int) < ((1000000000 : Nat) : Int) := by omega
  exact ⟨⟨Int.lt_of_lt_of_le (by decide) a1, Int.lt_trans b1 (by decide), by simpa using hl⟩, (show qd (.str (List.replicate ((n : Int)).toNat a).flatten) from by simpa using h)⟩
theorem wo_mull {a : List D} {n : Nat} (hn : n < 1000000000) (hl : a.length * n ≤ 16777216) (h : qd (.lst (List.replicate n a).flatten)) : (dMul (.lst a) (.int (n : Int))).rn qd e := by
  have a1 : (0 : Int) ≤ (n : Int) := Int.natCast_nonneg n
  have b1 : ((n : Nat) : Int) < ((1000000000 : Nat) : Int) := by omega
  exact ⟨⟨Int.le_trans (by decide) a1, Int.lt_trans b1 (by decide), by simpa using hl⟩, (show qd (.lst (List.replicate ((n : Int)).toNat a).flatten) from by simpa using h)⟩
theorem wo_mod {i j : Int} (hj : 0 < j) (h : qd (.int (i % j))) : (dMod (.int i) (.int j)).rn qd e := ⟨hj, h⟩
theorem wo_ci {p : Int → Int → Bool} {i j : Int} (h : qd (.bl (p i j))) : (dCI p (.int i) (.int j)).rn qd e := h
theorem wo_eq {x y : D} (h : (dEqv x y).rn (fun b => qd (.bl b)) e) : (dEq x y).rn qd e := h
theorem wo_ne {x y : D} (h : (dEqv x y).rn (fun b => qd (.bl (!b))) e) : (dNe x y).rn qd e := h
theorem wq_int {i j : Int} (h : qb (decide (i = j))) : (dEqv (.int i) (.int j)).rn qb e := h
theorem wq_str {a b : List Nat} (h : qb (decide (a = b))) : (dEqv (.str a) (.str b)).rn qb e := h
theorem wq_bl {a b : Bool} (h : qb (a == b)) : (dEqv (.bl a) (.bl b)).rn qb e := h
theorem wq_nn (h : qb true) : (dEqv .non .non).rn qb e := h
theorem wq_gen {x y : D} (hx : x.flat 64 = true) (hy : y.flat 64 = true) (h : qb (eqD x y)) : (dEqv x y).rn qb e := dEqv_ok (.inl ⟨hx, hy⟩) h
theorem wo_in {x y : D} (h : (dInB x y).rn (fun b => qd (.bl b)) e) : (dIn x y).rn qd e := h
theorem wo_nin {x y : D} (h : (dInB x y).rn (fun b => qd (.bl (!b))) e) : (dNotIn x y).rn qd e := h
theorem wn_str {c : Nat} {z : List Nat} (h : qb (decide (c ∈ z))) : (dInB (.str [c]) (.str z)).rn qb e := h
theorem wn_lst {x : D} {ys : List D} (h1 : x.flat0 = true) (h2 : ys.all D.flat0 = true) (h : qb (ys.any fun y => eqD y x)) : (dInB x (.lst ys)).rn qb e := by
  cases x with
  | str l =>
    match l with
    | [] => exact ⟨⟨h1, h2⟩, h⟩
    | [_] => exact ⟨⟨h1, h2⟩, h⟩
    | _ :: _ :: _ => exact ⟨⟨h1, h2⟩, h⟩
  | _ => exact ⟨⟨h1, h2⟩, h⟩
theorem wn_tup {x : D} {ys : List D} (h1 : x.flat0 = true) (h2 : ys.all D.flat0 = true) (h : qb (ys.any fun y => eqD y x)) : (dInB x (.tup ys)).rn qb e := by
  cases x with
  | str l =>
    match l with
    | [] => exact ⟨⟨h1, h2⟩, h⟩
    | [_] => exact ⟨⟨h1, h2⟩, h⟩
    | _ :: _ :: _ => exact ⟨⟨h1, h2⟩, h⟩
  | _ => exact ⟨⟨h1, h2⟩, h⟩
theorem wo_ixl {xs : List D} {i : Int} {d : D} (g : atI xs i = some d) (h : qd d) : (dIx (.lst xs) (.int i)).rn qd e := by
  dsimp only [dIx]
  rw [g]; exact h
theorem wo_ixt {xs : List D} {i : Int} {d : D} (g : atI xs i = some d) (h : qd d) : (dIx (.tup xs) (.int i)).rn qd e := by
  dsimp only [dIx]
  rw [g]; exact h
theorem wo_ixs {z : List Nat} {i : Int} {c : Nat} (hl : z.length ≤ 16777216) (g : atI z i = some c) (h : qd (.str [c])) : (dIx (.str z) (.int i)).rn qd e := by
  refine ⟨hl, ?_⟩
  rw [g]; exact h
theorem wo_sls {z : List Nat} {lo hi : Option Int} (hl : z.length ≤ 16777216) (h : qd (.str (cutL z lo hi))) : (dSl (.str z) lo hi).rn qd e := ⟨hl, h⟩
theorem wo_sll {z : List D} {lo hi : Option Int} (h : qd (.lst (cutL z lo hi))) : (dSl (.lst z) lo hi).rn qd e := h
theorem wo_slt {z : List D} {lo hi : Option Int} (h : qd (.tup (cutL z lo hi))) : (dSl (.tup z) lo hi).rn qd e := h
theorem wo_lens {z : List Nat} (hl : z.length ≤ 16777216) (h : qd (.int z.length)) : (dLen (.str z)).rn qd e := ⟨hl, h⟩
theorem wo_lenl {z : List D} (h : qd (.int z.length)) : (dLen (.lst z)).rn qd e := h
theorem wo_lent {z : List D} (h : qd (.int z.length)) : (dLen (.tup z)).rn qd e := h
theorem wo_tol {z : List D} (h : qd (.lst z)) : (dToList (.lst z)).rn qd e := h
theorem wo_tol' {z : List D} (h : qd (.lst z)) : (dToList (.tup z)).rn qd e := h
theorem wo_tot {z : List D} (h : qd (.tup z)) : (dToTup (.lst z)).rn qd e := h
theorem wo_inti {i : Int} (h : qd (.int i)) : (dInt (.int i)).rn qd e := h
theorem wo_intb {b : Bool} (h : qd (.int (if b then 1 else 0))) : (dInt (.bl b)).rn qd e := h
theorem wo_abs {i : Int} (h : qd (.int (if i < 0 then -i else i))) : (dAbs (.int i)).rn qd e := h
theorem wo_isi {x : D} {n t : String} {b : Bool} (h1 : tyD x = some t) (h2 : kitB t n = some b) (h : qd (.bl b)) : (dIsi x (.ty n)).rn qd e := by
  unfold dIsi
  rw [h1]
  dsimp only
  rw [h2]; exact h
theorem wo_isn (h : qd (.bl true)) : (dIs .non .non).rn qd e := h
theorem wo_isi0 {i : Int} (h : qd (.bl false)) : (dIs (.int i) .non).rn qd e := h
theorem wo_iss0 {i : List Nat} (h : qd (.bl false)) : (dIs (.str i) .non).rn qd e := h
theorem wo_isl0 {i : List D} (h : qd (.bl false)) : (dIs (.lst i) .non).rn qd e := h
theorem wo_ist0 {i : List D} (h : qd (.bl false)) : (dIs (.tup i) .non).rn qd e := h
theorem wo_isb {a b : Bool} (h : qd (.bl (decide (a = b)))) : (dIs (.bl a) (.bl b)).rn qd e := h
def KBn (q : D → Prop) : D → Prop
  | .bl b => q (.bl (!b))
  | _ => False
theorem wo_isnot {x y : D} (h : (dIs x y).rn (KBn qd) e) : (dIsNot x y).rn qd e := by
  refine (dIs x y).mono (fun d p => ?_) (fun _ z => z) h
  cases d <;> first | exact p | exact False.elim p
theorem wk_bn {b : Bool} (h : qd (.bl (!b))) : KBn qd (.bl b) := h
theorem wo_max2 {i j : Int} (h : qd (.int (if j > i then j else i))) : (dMax2 (.int i) (.int j)).rn qd e := h
theorem wo_tru {fe : Env → W D} {ρ : Env} (h : (fe ρ).rn (fun d => (dTru d).rn qb e) e) : (fTru fe ρ).rn qb e := h
theorem wo_trub {b : Bool} (h : qb b) : (dTru (.bl b)).rn qb e := h
theorem wo_trul {l : List D} (h : qb (!l.isEmpty)) : (dTru (.lst l)).rn qb e := h
theorem wo_trut {l : List D} (h : qb (!l.isEmpty)) : (dTru (.tup l)).rn qb e := h
theorem wo_trui {i : Int} (h : qb (i != 0)) : (dTru (.int i)).rn qb e := h
theorem wk_nt {A B : Prop} (h : B) : Kif A B (!true) := h
theorem wk_nf {A B : Prop} (h : A) : Kif A B (!false) := h
theorem wk_nif {A B : Prop} {b : Bool} (h1 : b = true → B) (h2 : b = false → A) : Kif A B (!b) := by
  cases b with
  | true => exact h1 rfl
  | false => exact h2 rfl
end
/-! programs and trees -/
section
variable {qd : D → Prop} {qb : Bool → Prop} {ql : List D → Prop} {e : Str → Prop}
theorem wk_listp {p : List Row} (h : qd (prgX p)) : Klist qd (prgX p) := h
theorem wq_prg {p r : List Row} (h : qb (decide (p = r))) : (dEqv (prgX p) (prgX r)).rn qb e := by
  refine dEqv_ok (.inl ⟨prg_flat64 _, prg_flat64 _⟩) ?_
  rw [eqD_prg]; exact h
theorem wq_prg0 {p : List Row} (h : qb (decide (p = []))) : (dEqv (prgX p) (.lst [])).rn qb e := wq_prg (r := []) h
theorem wq_0prg {p : List Row} (h : qb (decide ([] = p))) : (dEqv (.lst []) (prgX p)).rn qb e := wq_prg (p := []) h
theorem wq_tree {s t : Tr} (h : qb (decide (s = t))) : (dEqv (treeX s) (treeX t)).rn qb e := by
  refine dEqv_ok (.inl ⟨flat_tree _ _, flat_tree _ _⟩) ?_
  show qb (decide (s.enc = t.enc))
  have : decide (s.enc = t.enc) = decide (s = t) := by
    by_cases q : s = t
    · rw [q, decide_eq_true rfl, decide_eq_true rfl]
    · rw [decide_eq_false q, decide_eq_false (fun z => q (enc_inj1 z))]
  rw [this]; exact h
theorem wq_treel {s : Tr} (h : qb (decide (s = .l))) : (dEqv (treeX s) (.str [48])).rn qb e := wq_tree (t := .l) h
theorem wq_trees {s : Tr} {l : List Nat} (h : qb (decide (s.enc = l))) : (dEqv (treeX s) (.str l)).rn qb e := h
theorem wq_treet {s : Tr} {ds : List D} (f : (D.tup ds).flat 64 = true) (h : qb false) : (dEqv (treeX s) (.tup ds)).rn qb e := dEqv_ok (.inl ⟨flat_tree _ _, f⟩) h
theorem wq_tt {ds es : List D} (f : (D.tup ds).flat 64 = true) (f' : (D.tup es).flat 64 = true) (h : qb (eqAll ds es)) : (dEqv (.tup ds) (.tup es)).rn qb e := dEqv_ok (.inl ⟨f, f'⟩) h
theorem wq_nont {ds : List D} (f : (D.tup ds).flat 64 = true) (h : qb false) : (dEqv .non (.tup ds)).rn qb e := dEqv_ok (.inl ⟨rfl, f⟩) h
theorem wo_lenp {p : List Row} (h : qd (.int (p.length : Nat))) : (dLen (prgX p)).rn qd e := by
  show qd (.int ((p.map Row.x).length : Nat))
  rw [List.length_map]; exact h
theorem wo_lentr {t : Tr} (hl : t.enc.length ≤ 16777216) (h : qd (.int (t.enc.length : Nat))) : (dLen (treeX t)).rn qd e := ⟨hl, h⟩
theorem wi_prg {p : List Row} (h : ql (p.map Row.x)) : (itemsD (prgX p)).rn ql e := h
theorem wo_tolp {p : List Row} (h : qd (prgX p)) : (dToList (prgX p)).rn qd e := h
theorem wo_addp {p r : List Row} (hl : p.length + r.length ≤ 16777216) (h : qd (prgX (p ++ r))) : (dAdd (prgX p) (prgX r)).rn qd e := by
  refine ⟨by rw [List.length_map, List.length_map]; exact hl, ?_⟩
  rw [← List.map_append]; exact h
theorem wo_istr {t : Tr} (h : qd (.bl false)) : (dIs (treeX t) .non).rn qd e := h
theorem wo_ispr {t : List Row} (h : qd (.bl false)) : (dIs (prgX t) .non).rn qd e := h
theorem wo_isnb {b : Bool} (h : qd (.bl false)) : (dIs (.bl b) .non).rn qd e := h
theorem wo_isni (h : qd (.bl false)) : (dIs .non (.bl true)).rn qd e → qd (.bl false) := fun _ => h
theorem wo_isitr {t : Tr} {n : String} {b : Bool} (h2 : kitB "str" n = some b) (h : qd (.bl b)) : (dIsi (treeX t) (.ty n)).rn qd e := wo_isi (t := "str") rfl h2 h
theorem wo_isipr {t : List Row} {n : String} {b : Bool} (h2 : kitB "list" n = some b) (h : qd (.bl b)) : (dIsi (prgX t) (.ty n)).rn qd e := wo_isi (t := "list") rfl h2 h
theorem wk_eqt {A B : Prop} {α : Type} [DecidableEq α] {a : α} (h : A) : Kif A B (decide (a = a)) := by rw [decide_eq_true rfl]; exact h
theorem wk_neqt {A B : Prop} {α : Type} [DecidableEq α] {a : α} (h : B) : Kif A B (!decide (a = a)) := by rw [decide_eq_true rfl]; exact h
end
end NV

set_option Elab.async false
set_option linter.all false
set_option maxRecDepth 100000
set_option maxHeartbeats 4000000
/-! # a list of the caller's own that a callee changes -/
namespace NV
open PySem PySem.Spec PyProof.Rows L2
open Evl (Ex)
/-- arguments: values, and slots of one's own -/
def AtO (K : PySem.W.Frag) (M : Addr → Prop) (H : Hp) (σ : L2.St) (ρ : Env) : List (Option Nat) → List D → List V → Prop
  | [], [], [] => True
  | none :: k, d :: ds, v :: vs => Dx K M H d v ∧ AtO K M H σ ρ k ds vs
  | some i :: k, d :: ds, v :: vs => (σ[i]? = some (some v) ∧ ρ[i]? = some (some d)) ∧ AtO K M H σ ρ k ds vs
  | _, _, _ => False
section
variable {K : PySem.W.Frag} {M : Addr → Prop} {H H' : Hp} {σ : L2.St} {ρ : Env}
theorem AtO.ex (e : Ex H H') : ∀ {ks : List (Option Nat)} {ds : List D} {vs : List V}, AtO K M H σ ρ ks ds vs → AtO K M H' σ ρ ks ds vs
  | [], [], [], h => h
  | none :: k, d :: ds, v :: vs, h => ⟨h.1.ex e, AtO.ex e (ks := k) h.2⟩
  | some i :: k, d :: ds, v :: vs, h => ⟨h.1, AtO.ex e (ks := k) h.2⟩
  | [], _ :: _, _, h => False.elim h
  | [], [], _ :: _, h => False.elim h
  | none :: _, [], _, h => False.elim h
  | none :: _, _ :: _, [], h => False.elim h
  | some _ :: _, [], _, h => False.elim h
  | some _ :: _, _ :: _, [], h => False.elim h
theorem AtO.len : ∀ {ks : List (Option Nat)} {ds : List D} {vs : List V}, AtO K M H σ ρ ks ds vs → ds.length = ks.length ∧ vs.length = ks.length
  | [], [], [], h => ⟨rfl, rfl⟩
  | none :: k, d :: ds, v :: vs, h => by
    obtain ⟨a, b⟩ := AtO.len (ks := k) h.2
    exact ⟨by simp [a], by simp [b]⟩
  | some i :: k, d :: ds, v :: vs, h => by
    obtain ⟨a, b⟩ := AtO.len (ks := k) h.2
    exact ⟨by simp [a], by simp [b]⟩
  | [], _ :: _, _, h => False.elim h
  | [], [], _ :: _, h => False.elim h
  | none :: _, [], _, h => False.elim h
  | none :: _, _ :: _, [], h => False.elim h
  | some _ :: _, [], _, h => False.elim h
  | some _ :: _, _ :: _, [], h => False.elim h
theorem AtO.val : ∀ {ks : List (Option Nat)} {ds : List D} {vs : List V} {j : Nat} {d : D}, AtO K M H σ ρ ks ds vs → ks[j]? = some none → ds[j]? = some d → ∃ v, vs[j]? = some v ∧ Dx K M H d v
  | [], [], [], _, _, h, e, _ => by simp at e
  | none :: k, d :: ds, v :: vs, 0, _, h, _, e => by simp at e; subst e; exact ⟨v, rfl, h.1⟩
  | some i :: k, d :: ds, v :: vs, 0, _, h, e, _ => by simp at e
  | none :: k, d :: ds, v :: vs, j + 1, _, h, e1, e2 => by
    obtain ⟨u, q1, q2⟩ := AtO.val (ks := k) (j := j) h.2 (by simpa using e1) (by simpa using e2)
    exact ⟨u, by simpa using q1, q2⟩
  | some i :: k, d :: ds, v :: vs, j + 1, _, h, e1, e2 => by
    obtain ⟨u, q1, q2⟩ := AtO.val (ks := k) (j := j) h.2 (by simpa using e1) (by simpa using e2)
    exact ⟨u, by simpa using q1, q2⟩
  | [], _ :: _, _, _, _, h, _, _ => False.elim h
  | [], [], _ :: _, _, _, h, _, _ => False.elim h
  | none :: _, [], _, _, _, h, _, _ => False.elim h
  | none :: _, _ :: _, [], _, _, h, _, _ => False.elim h
  | some _ :: _, [], _, _, _, h, _, _ => False.elim h
  | some _ :: _, _ :: _, [], _, _, h, _, _ => False.elim h
theorem AtO.own : ∀ {ks : List (Option Nat)} {ds : List D} {vs : List V} {j i : Nat}, AtO K M H σ ρ ks ds vs → ks[j]? = some (some i) → ∃ d v, ds[j]? = some d ∧ vs[j]? = some v ∧ σ[i]? = some (some v) ∧ ρ[i]? = some (some d)
  | [], [], [], _, _, h, e => by simp at e
  | none :: k, d :: ds, v :: vs, 0, _, h, e => by simp at e
  | some i :: k, d :: ds, v :: vs, 0, _, h, e => by simp at e; subst e; exact ⟨d, v, rfl, rfl, h.1.1, h.1.2⟩
  | none :: k, d :: ds, v :: vs, j + 1, _, h, e => by
    obtain ⟨d, u, q⟩ := AtO.own (ks := k) (j := j) h.2 (by simpa using e)
    exact ⟨d, u, by simpa using q.1, by simpa using q.2.1, q.2.2⟩
  | some i :: k, d :: ds, v :: vs, j + 1, _, h, e => by
    obtain ⟨d, u, q⟩ := AtO.own (ks := k) (j := j) h.2 (by simpa using e)
    exact ⟨d, u, by simpa using q.1, by simpa using q.2.1, q.2.2⟩
  | [], _ :: _, _, _, _, h, _ => False.elim h
  | [], [], _ :: _, _, _, h, _ => False.elim h
  | none :: _, [], _, _, _, h, _ => False.elim h
  | none :: _, _ :: _, [], _, _, h, _ => False.elim h
  | some _ :: _, [], _, _, _, h, _ => False.elim h
  | some _ :: _, _ :: _, [], _, _, h, _ => False.elim h
end
def PDAO (K : PySem.W.Frag) (mg : Str → Option Value) (Eo : XK) (own : List Nat) (ks : List (Option Nat)) (ta : TA) (fa : Env → W (List D)) : Prop := ∀ (M : Addr → Prop) (ρ : Env) (σ : L2.St) (H : Hp) (Q : List V → Hp → Prop), Mk M H → EnvE K M own H σ ρ → (fa ρ).run (fun ds => ∀ vs H', Ex H H' → AtO K M H' σ ρ ks ds vs → Q vs H') (PostX mg H Eo) → ta σ H Q
/-- a promise of a def that changes its argument j, a list -/
def spIo (K : PySem.W.Frag) (mg : Str → Option Value) (n j : Nat) (F : List D → W (D × D)) : Sp := fun vs H Q E => ∃ (M : Addr → Prop) (ds : List D) (a : Addr) (es : List D) (xs : List V), ds.length = n ∧ vs.length = n ∧ Mk M H ∧ (∀ i d, i ≠ j → ds[i]? = some d → ∃ v, vs[i]? = some v ∧ Dx K M H d v) ∧
  ds[j]? = some (.lst es) ∧ vs[j]? = some (.ref a) ∧ M a ∧ H a = some (.lst xs) ∧ DxAll K M H es xs ∧
  (F ds).run (fun p => ∃ es', p.2 = .lst es' ∧ ∀ v H' xs', Kx K (fun b => b = a) H H' → Dx K M H' p.1 v → H' a = some (.lst xs') → DxAll K M H' es' xs' → Q v H') (fun n => ∀ cls H', Kx K (fun b => b = a) H H' → mg n = some cls → E cls none H')
theorem spIo_len {K : PySem.W.Frag} {mg : Str → Option Value} {n j : Nat} {F : List D → W (D × D)} {vs : List V} {H : Hp} {Q : VK} {E : XK} (h : spIo K mg n j F vs H Q E) : vs.length = n := by
  obtain ⟨_, _, _, _, _, _, h, _⟩ := h
  exact h
def ioOut (j : Nat) (d : D) (ρ : Env) : W (D × D) := match ρ[j]? with
  | some (some e) => .ok (d, e)
  | _ => .stuck
def defFio (n j : Nat) (fs : Env → W Out) : List D → W (D × D) := fun ds => (fs (startD n ds)).bind fun
  | .rt d ρ => ioOut j d ρ
  | .nx ρ => ioOut j .non ρ
  | _ => .stuck
def ioSet (x i : Nat) (ρ : Env) (p : D × D) : W Out := match p.2 with
  | .lst es => .ok (.nx ((ρ.set i (some (.lst es))).set x (some p.1)))
  | _ => .stuck
/-- x = f(.., xs, ..), where f changes xs, the list at slot i -/
def fCallIo (x i : Nat) (F : List D → W (D × D)) (fa : Env → W (List D)) : Env → W Out := fun ρ => (fa ρ).bind fun ds => (F ds).bind fun p => ioSet x i ρ p
def fCallIoC (x i : Nat) (F : List D → W (D × D)) (fa : Env → W (List D)) : Env → W Out := fun ρ => (fa ρ).bind fun ds => (W.calm (F ds)).bind fun p => ioSet x i ρ p
section
variable {K : PySem.W.Frag} {mg : Str → Option Value} {Eo : XK} {own : List Nat}
theorem pdao_nil : PDAO K mg Eo own [] tNil fNil := fun M ρ σ H Q mk E h => h [] H (Evl.Ex.refl H) True.intro
theorem pdao_v {ks : List (Option Nat)} {ta : TE} {tr : TA} {fa : Env → W D} {fr : Env → W (List D)} (ha : PD K mg Eo own .v ta fa) (hr : PDAO K mg Eo own ks tr fr) : PDAO K mg Eo own (none :: ks) (tCons ta tr) (fCons fa fr) := fun M ρ σ H Q mk E h =>
  ha M ρ σ H _ mk E ((fa ρ).mono (fun x p v H1 e1 r1 => hr M ρ σ H1 _ (mk.ex e1) (E.ex e1) ((fr ρ).mono (fun xs p vs H2 e2 r2 => p _ H2 (e1.trans e2) ⟨r1.ex e2, r2⟩) (fun n z => z.mono e1) p)) (fun _ z => z) h)
theorem pdao_o {ks : List (Option Nat)} {i : Nat} {tr : TA} {fr : Env → W (List D)} (hi : decide (i ∈ own) = true) (hr : PDAO K mg Eo own ks tr fr) : PDAO K mg Eo own (some i :: ks) (tCons (mV i) tr) (fCons (fV i) fr) := fun M ρ σ H Q mk E h => by
  obtain ⟨d, hd, h⟩ := fV_run (show (fV i ρ).run (fun x => (fr ρ).run (fun xs => ∀ vs H', Ex H H' → AtO K M H' σ ρ (some i :: ks) (x :: xs) vs → Q vs H') (PostX mg H Eo)) (PostX mg H Eo) from h)
  obtain ⟨ds, a, xs, h1, h2, h3, h4, h5⟩ := E.own i d (of_decide_eq_true hi) hd
  show match σ[i]? with | some (some v) => tr σ H (fun xs H' => Q (v :: xs) H') | _ => False
  rw [h1]
  exact hr M ρ σ H _ mk E ((fr ρ).mono (fun xs p vs H2 e2 r2 => p _ H2 e2 ⟨⟨h1, hd⟩, r2⟩) (fun n z => z) h)
end
section
variable {K : PySem.W.Frag} {own : List Nat} {M0 : Addr → Prop} {B : Hp} {io : List (Nat × Addr)} {cs : Chk} {M : Addr → Prop} {H H' : Hp} {σ σ' : L2.St} {ρ ρ' : Env}
theorem kx_up {M1 : Addr → Prop} {C : Hp} {a : Addr} (h : M1 a ∨ C a = none) (kk : Kx K M1 C H) (k : Kx K (fun b => b = a) H H') : Kx K M1 C H' := by
  refine ⟨fun b o n e => k.k b o (fun z => ?_) (kk.k b o n e), fun b zs e => k.t b zs (kk.t b zs e)⟩
  have z : b = a := z
  subst z
  rcases h with h | h
  · exact n h
  · rw [h] at e; cases e
/-- a list of one's own is changed, and new things are made -/
theorem EnvS.chgK (E : EnvS K own M0 B io cs M H σ ρ) {i : Nat} {d : D} {a : Addr} {ys : List V} {es : List D} (hi : i ∈ own) (hd : ρ[i]? = some (some d)) (hs : σ[i]? = some (some (.ref a))) (k : Kx K (fun b => b = a) H H') (hl : H' a = some (.lst ys)) (r : DxAll K M H' es ys) : EnvS K own M0 B io cs M H' σ (ρ.set i (some (.lst es))) := by
  obtain ⟨ds, a', xs', g1, g0, g2, g3, g4⟩ := E.env.own i d hi hd
  rw [hs] at g1
  cases g1
  have kx : Kx K M H H' := k.weak fun b e => by rw [e]; exact g2
  have hlt : i < ρ.length := (List.getElem?_eq_some_iff.mp hd).1
  have up : ∀ M1 : Addr → Prop, ∀ C : Hp, (M1 a ∨ C a = none) → Kx K M1 C H → Kx K M1 C H' := fun M1 C h kk => kx_up h kk k
  have n1 := E.new i d a hi hd hs
  have n2 : ∀ c ∈ cs, c.1 a ∨ c.2 a = none := fun c hc => E.msk c hc a g2
  have back : ∀ j e, (ρ.set i (some (.lst es)))[j]? = some (some e) → ∃ e', ρ[j]? = some (some e') := fun j e h => by
    by_cases q : i = j
    · subst q; exact ⟨d, hd⟩
    · rw [List.getElem?_set_ne q] at h; exact ⟨e, h⟩
  refine ⟨⟨by rw [List.length_set]; exact E.env.len, fun j e n h => ?_, fun j e n h => ?_⟩, fun b z => ?_, E.sub, E.mb, fun j e x hj h1 h2 => ?_, E.msk, fun j k e f x hj hk n h1 h2 h3 h4 => ?_, up _ _ (n1.symm) E.kx, fun c hc => up _ _ (n2 c hc) (E.ck c hc), fun p hp => ?_⟩
  · have q : i ≠ j := fun q => n (q ▸ hi)
    rw [List.getElem?_set_ne q] at h
    obtain ⟨v, v1, v2⟩ := E.env.val j e n h
    exact ⟨v, v1, Dx.kx kx e v2⟩
  · by_cases q : i = j
    · subst q
      rw [List.getElem?_set_self hlt] at h
      cases h
      exact ⟨es, a, ys, hs, rfl, g2, hl, r⟩
    · rw [List.getElem?_set_ne q] at h
      obtain ⟨fs, b, zs, y1, y2, y3, y4, y5⟩ := E.env.own j e n h
      have nb : b ≠ a := fun z => by
        subst z
        exact E.dis i j d e b hi n q hd h hs y1
      exact ⟨fs, b, zs, y1, y2, y3, k.k _ _ nb y4, DxAll.kx kx fs y5⟩
  · by_cases q : b = a
    · exact ⟨ys, by rw [q]; exact hl⟩
    · obtain ⟨zs, hz⟩ := E.mm b z
      exact ⟨zs, k.k _ _ q hz⟩
  · obtain ⟨e', h1'⟩ := back j e h1
    exact E.new j e' x hj h1' h2
  · obtain ⟨e', h1'⟩ := back j e h1
    obtain ⟨f', h2'⟩ := back k f h2
    exact E.dis j k e' f' x hj hk n h1' h2' h3 h4
  · obtain ⟨f1, f2, e, f3⟩ := E.fix p hp
    refine ⟨f1, f2, ?_⟩
    by_cases q : i = p.1
    · exact ⟨_, by rw [q, List.getElem?_set_self (by rw [← q]; exact hlt)]⟩
    · exact ⟨e, by rw [List.getElem?_set_ne q]; exact f3⟩
end
section
variable {K : PySem.W.Frag} {mg : Str → Option Value} {Eo : XK} {rm : Md} {ioS own oN oB oC : List Nat}
theorem sd_callIo {x i j n : Nat} {ks : List (Option Nat)} {F : List D → W (D × D)} {ta : TA} {fa : Env → W (List D)} (hl : decide (ks.length = n) = true) (hk : ks[j]? = some (some i)) (ho : (List.range n).all (fun k => decide (k = j) || decide (ks[k]? = some none)) = true) (hi : decide (i ∈ own) = true) (hx : decide (x ∈ own) = false) (ha : PDAO K mg Eo own ks ta fa) :
    SD K mg Eo rm ioS own own oB oC (tAsg (mCall (spIo K mg n j F) Eo ta) (gName x)) (fCallIo x i F fa) := fun M0 B io cs M H σ ρ De hio E h => by
  have hi' : i ∈ own := of_decide_eq_true hi
  have hx' : x ∉ own := of_decide_eq_false hx
  have hl' : ks.length = n := of_decide_eq_true hl
  refine ha M ρ σ H _ E.mm E.env ((fa ρ).mono (fun ds p vs H' e r => ?_) (fun n z => E.px z) h)
  have E' := E.ex e
  obtain ⟨l1, l2⟩ := r.len
  obtain ⟨d, v, d1, d2, d3, d4⟩ := r.own hk
  obtain ⟨es, a, xs, g1, rfl, g2, g3, g4⟩ := E'.env.own i d hi' d4
  rw [d3] at g1
  cases g1
  refine ⟨M, ds, a, es, xs, by rw [l1, hl'], by rw [l2, hl'], E'.mm, fun k d nk hd => ?_, d1, d2, g2, g3, g4, ?_⟩
  · have hkn : k < n := by
      have := (List.getElem?_eq_some_iff.mp hd).1
      rw [l1, hl'] at this; exact this
    have := List.all_eq_true.mp ho k (List.mem_range.mpr hkn)
    rw [Bool.or_eq_true] at this
    rcases this with q | q
    · exact absurd (of_decide_eq_true q) nk
    · exact r.val (of_decide_eq_true q) hd
  · refine (F ds).mono (fun p pp => ?_) (fun n z cls H2 k q => ?_) p
    · obtain ⟨pv, pl⟩ := p
      cases pl <;> first | (exact False.elim pp) | skip
      rename_i es'
      have pp' : PostO K rm M0 B io cs own oB oC De (.nx ((ρ.set i (some (.lst es'))).set x (some pv))) := pp
      refine ⟨es', rfl, fun v H2 xs' k rv hl r' => ?_⟩
      have Ec := E'.chgK hi' d4 d3 k hl (show DxAll K M H2 es' xs' from r')
      exact pp' M H2 _ (Ec.upd (vs := [x]) (Ec.env.set hx' rv) (fun k hk => ⟨hk, fun z => hx' (by simp at z; exact z ▸ hk)⟩) (fun q hq => (Ec.fix q hq).1) (fun k hk => List.getElem?_set_ne fun (q : x = k) => hk (by simp [q])) (fun k hk => List.getElem?_set_ne fun (q : x = k) => hk (by simp [q])))
    · exact z cls H2 (kx_up (E'.new i _ a hi' d4 d3).symm E'.kx k) q
/-- .. where nothing is raised -/
theorem sd_callIoC {E0 : XK} {x i j n : Nat} {ks : List (Option Nat)} {F : List D → W (D × D)} {ta : TA} {fa : Env → W (List D)} (hl : decide (ks.length = n) = true) (hk : ks[j]? = some (some i)) (ho : (List.range n).all (fun k => decide (k = j) || decide (ks[k]? = some none)) = true) (hi : decide (i ∈ own) = true) (hx : decide (x ∈ own) = false) (ha : PDAO K mg Eo own ks ta fa) :
    SD K mg Eo rm ioS own own oB oC (tAsg (mCall (spIo K mg n j F) E0 ta) (gName x)) (fCallIoC x i F fa) := fun M0 B io cs M H σ ρ De hio E h => by
  have hi' : i ∈ own := of_decide_eq_true hi
  have hx' : x ∉ own := of_decide_eq_false hx
  have hl' : ks.length = n := of_decide_eq_true hl
  refine ha M ρ σ H _ E.mm E.env ((fa ρ).mono (fun ds p vs H' e r => ?_) (fun n z => E.px z) h)
  have E' := E.ex e
  obtain ⟨l1, l2⟩ := r.len
  obtain ⟨d, v, d1, d2, d3, d4⟩ := r.own hk
  obtain ⟨es, a, xs, g1, rfl, g2, g3, g4⟩ := E'.env.own i d hi' d4
  rw [d3] at g1
  cases g1
  refine ⟨M, ds, a, es, xs, by rw [l1, hl'], by rw [l2, hl'], E'.mm, fun k d nk hd => ?_, d1, d2, g2, g3, g4, ?_⟩
  · have hkn : k < n := by
      have := (List.getElem?_eq_some_iff.mp hd).1
      rw [l1, hl'] at this; exact this
    have := List.all_eq_true.mp ho k (List.mem_range.mpr hkn)
    rw [Bool.or_eq_true] at this
    rcases this with q | q
    · exact absurd (of_decide_eq_true q) nk
    · exact r.val (of_decide_eq_true q) hd
  · refine (F ds).mono (fun p pp => ?_) (fun n z => False.elim z) p
    obtain ⟨pv, pl⟩ := p
    cases pl <;> first | (exact False.elim pp) | skip
    rename_i es'
    have pp' : PostO K rm M0 B io cs own oB oC De (.nx ((ρ.set i (some (.lst es'))).set x (some pv))) := pp
    refine ⟨es', rfl, fun v H2 xs' k rv hl r' => ?_⟩
    have Ec := E'.chgK hi' d4 d3 k hl (show DxAll K M H2 es' xs' from r')
    exact pp' M H2 _ (Ec.upd (vs := [x]) (Ec.env.set hx' rv) (fun k hk => ⟨hk, fun z => hx' (by simp at z; exact z ▸ hk)⟩) (fun q hq => (Ec.fix q hq).1) (fun k hk => List.getElem?_set_ne fun (q : x = k) => hk (by simp [q])) (fun k hk => List.getElem?_set_ne fun (q : x = k) => hk (by simp [q])))
/-- the body of a def that changes its argument j -/
theorem sd_defIo {n j : Nat} {N : List Str} {ts : TS} {fs : Env → W Out} {oN oB oC : List Nat} {E : XK} (h : SD K mg E .v [j] [j] oN oB oC ts fs) {vs : List V} {H : Hp} {Q : VK} (q : spIo K mg n j (defFio N.length j fs) vs H Q E) : ts { nx := fun _ H' => Q .non H', rt := Q } (L2.start N vs) H := by
  obtain ⟨M, ds, a, es, xs, l1, l2, mk, rv, d1, d2, hM, ha, hr, run⟩ := q
  have hj : j < ds.length := (List.getElem?_eq_some_iff.mp d1).1
  have sg : ∀ (i : Nat) (d : D), (startD N.length ds)[i]? = some (some d) → ds[i]? = some d := fun i d h => by
    unfold startD at h
    by_cases hi : i < ds.length
    · rw [List.getElem?_append_left (by simpa using hi), List.getElem?_map] at h
      cases q : ds[i]? with
      | none => rw [q] at h; cases h
      | some d' => rw [q] at h; cases h; rfl
    · rw [List.getElem?_append_right (by simpa using hi), List.getElem?_replicate] at h
      split at h <;> cases h
  have ss : ∀ (i : Nat) (v : V), vs[i]? = some v → (L2.start N vs)[i]? = some (some v) := fun i v h => by
    have hi : i < vs.length := (List.getElem?_eq_some_iff.mp h).1
    unfold L2.start
    rw [List.getElem?_append_left (by simpa using hi), List.getElem?_map, h]; rfl
  have sj : (startD N.length ds)[j]? = some (some (.lst es)) := by
    unfold startD
    rw [List.getElem?_append_left (by simpa using hj), List.getElem?_map, d1]; rfl
  have E0 : EnvS K [j] M H [(j, a)] [] M H (L2.start N vs) (startD N.length ds) := by
    refine ⟨⟨by unfold L2.start startD; simp [l1, l2], fun i d n h => ?_, fun i d n h => ?_⟩, mk, fun _ z => z, mk, fun i d b n g1 g2 => ?_, fun c hc => (nomatch hc), fun i k d e b hi hk n => ?_, Kx.refl, fun c hc => (nomatch hc), fun p hp => ?_⟩
    · have hd := sg i d h
      obtain ⟨v, h1, h2⟩ := rv i d (fun e => n (by rw [e]; exact List.mem_singleton_self j)) hd
      exact ⟨v, ss i v h1, h2⟩
    · obtain rfl : i = j := List.mem_singleton.mp n
      have h' : some (some (D.lst es)) = some (some d) := sj.symm.trans (by assumption)
      cases h'
      exact ⟨es, a, xs, ss _ _ d2, rfl, hM, ha, hr⟩
    · have e := List.mem_singleton.mp n
      subst e
      rw [ss _ _ d2] at g2
      cases g2
      exact .inr ⟨(i, a), List.mem_singleton_self _, rfl⟩
    · exact absurd ((List.mem_singleton.mp hi).trans (List.mem_singleton.mp hk).symm) n
    · rw [List.mem_singleton.mp hp]
      exact ⟨List.mem_singleton_self _, ss _ _ d2, _, sj⟩
  have fp : ∀ b, Fp [(j, a)] b → b = a := fun b ⟨p, hp, e⟩ => by rw [List.mem_singleton.mp hp] at e; exact e.symm
  have kx : ∀ {H' : Hp}, Kx K (Fp [(j, a)]) H H' → Kx K (fun b => b = a) H H' := fun k => k.weak fp
  have fin : ∀ (d : D) (ρ : Env), (ioOut j d ρ).run (fun p => ∃ es', p.2 = .lst es' ∧ ∀ v H' xs', Kx K (fun b => b = a) H H' → Dx K M H' p.1 v → H' a = some (.lst xs') → DxAll K M H' es' xs' → Q v H') (fun n => ∀ cls H', Kx K (fun b => b = a) H H' → mg n = some cls → E cls none H') → PostR K M H [(j, a)] Q .v d ρ := fun d ρ p v H1 k r io => by
    obtain ⟨ds', xs', g1, g2, g3⟩ := io (j, a) (List.mem_singleton_self _)
    have g1 : ρ[j]? = some (some (.lst ds')) := g1
    unfold ioOut at p
    rw [g1] at p
    obtain ⟨es', e1, p⟩ := p
    cases e1
    exact p v H1 xs' (kx k) r g2 g3
  refine h M H [(j, a)] [] M H _ _ _ rfl E0 ((fs (startD N.length ds)).mono (fun o p => ?_) (fun n z cls H' k e => z cls H' (kx k) e) run)
  cases o with
  | nx ρ => exact fun M1 H1 σ1 E1 => fin .non ρ p .non H1 E1.kx rfl E1.io_at
  | rt d ρ => exact fin d ρ p
  | bk ρ => exact False.elim p
  | ct ρ => exact False.elim p
end
def Kio (j : Nat) (q : D × D → Prop) (e : Str → Prop) : Out → Prop
  | .rt d ρ => (ioOut j d ρ).rn q e
  | .nx ρ => (ioOut j .non ρ).rn q e
  | _ => False
section
variable {qp : D × D → Prop} {e : Str → Prop} {ρ ρ' ρ1 ρ2 : Env} {q : Out → Prop} {fl : Env → W (List D)}
theorem wd_io {n j : Nat} {ds : List D} {fs : Env → W Out} [h : StartC n ds ρ] (k : (fs ρ).rn (Kio j qp e) e) : (defFio n j fs ds).rn qp e := by
  unfold defFio
  rw [h.eq]
  refine (fs ρ).mono (fun o p => ?_) (fun _ z => z) k
  cases o <;> exact p
theorem wk_iort {j : Nat} {d x : D} [g : GetC ρ j x] (h : qp (d, x)) : Kio j qp e (.rt d ρ) := by
  show (ioOut j d ρ).rn qp e
  unfold ioOut
  rw [g.eq]; exact h
theorem wk_ionx {j : Nat} {x : D} [g : GetC ρ j x] (h : qp (.non, x)) : Kio j qp e (.nx ρ) := by
  show (ioOut j .non ρ).rn qp e
  unfold ioOut
  rw [g.eq]; exact h
def Kcio (x i : Nat) (ρ : Env) (q : Out → Prop) (e : Str → Prop) (p : D × D) : Prop := (ioSet x i ρ p).rn q e
theorem ws_cio {x i : Nat} {F : List D → W (D × D)} (h : (fl ρ).rn (fun ds => (F ds).rn (Kcio x i ρ q e) e) e) : (fCallIo x i F fl ρ).rn q e := h
theorem ws_cioC {x i : Nat} {F : List D → W (D × D)} (h : (fl ρ).rn (fun ds => (F ds).rn (Kcio x i ρ q e) (fun _ => False)) e) : (fCallIoC x i F fl ρ).rn q e := h
theorem wk_cio {x i : Nat} {d : D} {d' : List D} [s1 : SetC ρ i (some (.lst d')) ρ1] [s2 : SetC ρ1 x (some d) ρ2] (h : q (.nx ρ2)) : Kcio x i ρ q e (d, .lst d') := by
  show q (.nx ((ρ.set i (some (.lst d'))).set x (some d)))
  rw [s1.eq, s2.eq]; exact h
end
end NV

set_option Elab.async false
set_option linter.all false
set_option maxRecDepth 100000
set_option maxHeartbeats 4000000
/-! # several except clauses, with names or without -/
namespace NV
open PySem PySem.Spec PyProof.Rows L2
open Evl (Ex)
abbrev TsX := Addr → Value → Option Addr → TS
/-- the ends of a suite that has a name at slot i -/
def endsN (D : Ends) : Option Nat → Ends
  | none => D
  | some i => { nx := fun σ' H' => D.nx (σ'.set i none) H', rt := D.rt, bk := fun σ' H' => D.bk (σ'.set i none) H', ct := fun σ' H' => D.ct (σ'.set i none) H' }
def slotN (σ : L2.St) (a : Addr) : Option Nat → L2.St
  | none => σ
  | some i => σ.set i (some (.ref a))
def wMix (K : PySem.W.Frag) (Wout : WX) (D : Ends) : List (Value × Option Nat × TsX) → WX
  | [] => Wout
  | (c, i, ts) :: r => fun cls d σ H => ∃ b, PySem.W.exmOne K cls c = some b ∧ (b = true → ∀ a, H a = none → ts a cls d (endsN D i) (slotN σ a i) H) ∧ (b = false → wMix K Wout D r cls d σ H)
inductive HdsMix (X : Cx) : List ExceptHandler → List (Value × Option Nat × TsX) → Prop
  | nil : HdsMix X [] []
  | cons {x : Str} {c : Value} {ts : TsX} {b₀ : Stmt} {suite : List Stmt} {np pos' : Pos} {hds : List ExceptHandler} {l : List (Value × Option Nat × TsX)} (hc : Names X x c)
      (hsu : ∀ (a : Addr) (oe : Obj) (cls : Value) (d : Option Addr) (pn : List (Addr × Obj)), Zc cls d oe → (∃ vs, oe.data = .fields vs) → PSs (X.suite a ((a, oe) :: pn)) (b₀ :: suite) (ts a cls d)) (r : HdsMix X hds l) :
      HdsMix X (.ExceptHandler (some (.Name x np)) none (b₀ :: suite) pos' :: hds) ((c, none, ts) :: l)
  | as {x n : Str} {i : Nat} {c : Value} {ts : TsX} {b₀ : Stmt} {suite : List Stmt} {np pos' : Pos} {hds : List ExceptHandler} {l : List (Value × Option Nat × TsX)} (hN : X.N.Nodup) (hi : X.N[i]? = some n) (hln : X.env.kindOf n = some .local) (hc : Names X x c)
      (hsu : ∀ (a : Addr) (oe : Obj) (cls : Value) (d : Option Addr) (pn : List (Addr × Obj)), Zc cls d oe → (∃ vs, oe.data = .fields vs) → PSs (X.suite a ((a, oe) :: pn)) (b₀ :: suite) (ts a cls d)) (r : HdsMix X hds l) :
      HdsMix X (.ExceptHandler (some (.Name x np)) (some n) (b₀ :: suite) pos' :: hds) ((c, some i, ts) :: l)
/-- the exception a has landed: what stood ahead of it, and what stands -/
structure Down (X : Cx) (pin : List (Addr × Obj)) (σ : L2.St) (H : Hp) (a : Addr) (B : Heap) (cls : Value) (d : Option Addr) (s0 s3 : Shared) : Prop where
  inv : Inv X pin σ H s0
  base : ∀ b o, s0.heap.get? b = some o → b ∉ frs X.stack → B.get? b = some o
  fly : HandSPX.FlyingZ B (X.env :: X.outer) a (Zc cls d) s3.heap
  up : s0.heap.UpToSlots s3.heap
  os : s3.os = s0.os
  bare : AllBare s3.gens
  new : H a = none
section
variable {X : Cx} {pin : List (Addr × Obj)} {σ : L2.St} {H : Hp} {a : Addr} {B : Heap} {cls : Value} {d : Option Addr} {s0 s3 : Shared} {D : Ends} {Wout : WX}
theorem Down.now (n : Down X pin σ H a B cls d s0 s3) : Inv X pin σ H s3 := n.inv.landed n.base n.fly.1 n.up n.os n.bare
/-- the state in which a suite runs -/
theorem Down.hold (hf : X.env.frame = some X.env.locals) (n : Down X pin σ H a B cls d s0 s3) : ∃ oe vs, s3.heap.get? a = some oe ∧ Zc cls d oe ∧ oe.data = .fields vs ∧ Inv (X.suite a ((a, oe) :: (X.pn ++ pin))) [] σ H s3 := by
  obtain ⟨oe, vs, g, z, q⟩ := n.fly.there
  have out : a ∉ frs (X.env :: X.outer) := fun m => by
    obtain ⟨_, u, g', no⟩ := n.fly.2.2.1.mem m
    rw [g] at g'
    cases g'
    exact no _ q
  refine ⟨oe, vs, g, z, q, n.now.suite g q n.new (fun y => out ?_) (fun m => out ?_)⟩
  · exact List.mem_filterMap.mpr ⟨X.env, List.mem_cons_self, by rw [hf, y]⟩
  · obtain ⟨x, x1, x2⟩ := List.mem_filterMap.mp m
    exact List.mem_filterMap.mpr ⟨x, List.mem_cons_of_mem _ x1, x2⟩
/-- the clause's test -/
theorem Down.test (hf : X.env.frame = some X.env.locals) (n : Down X pin σ H a B cls d s0 s3) {x : Str} {c : Value} {np : Pos} (hc : Names X x c) {Q E : Value → Shared → Prop} (q : Q c s3) : wpAny (model X.prog X.w) (X.A.mark (some (.ref a))) (eval (.Name x np) X.env) Q E s3 := by
  obtain ⟨oe, vs, _, _, _, S⟩ := n.hold hf
  obtain ⟨h1, h2, h3⟩ := hc
  rcases h3 with h3 | ⟨h3, h4, h5⟩
  · exact ld_glob (X := X.suite a ((a, oe) :: (X.pn ++ pin))) S h1 h3 q h2
  · exact ld_blt (X := X.suite a ((a, oe) :: (X.pn ++ pin))) S h1 h3 h4 q h5 h2
theorem Down.is (n : Down X pin σ H a B cls d s0 s3) {c : Value} {b : Bool} (h : PySem.W.exmOne X.K cls c = some b) {A : Around} {Q : Bool → Shared → Prop} {E : Value → Shared → Prop} (q : Q b s3) : wpAny (model X.prog X.w) A (excMatches (.ref a) c) Q E s3 := by
  obtain ⟨oe, vs, g, z, _⟩ := n.fly.there
  have look : PySem.W.Looks (model X.prog X.w) s3.heap (typeOf (.ref a)) cls := fun A Q E s k q => wpAny_typeOf_ref (k _ _ g) (by rw [z.1]; exact q)
  exact (PySem.W.exm_one (M := model X.prog X.w) n.now.kIn look h).here q
/-- no clause takes it -/
theorem Down.pass (hs : X.stack = X.env :: X.outer) (hf : X.env.frame = some X.env.locals) (tk : Takes X Wout) (n : Down X pin σ H a B cls d s0 s3) (w : Wout cls d σ H) : wpAny (model X.prog X.w) X.A (handleBy (.ref a) X.env []) (SP X pin D) X.xe s3 := by
  have last : wpAny (model X.prog X.w) X.A (setFlight (.ref a) X.env.frame) (fun _ s => wpAny (model X.prog X.w) X.A (throw (.ref a) : Sem Flow) (SP X pin D) X.xe s) X.xe s3 := by
    rw [hf]
    refine HandSPX.setFlight_upZ n.fly fun hp held more => wpAny_throw (tk _ _ ⟨a, B, s0, pin, σ, H, cls, d, rfl, n.inv, n.base, n.up.trans more, ?_, n.new, n.os, n.bare, w⟩)
    rw [hs]
    exact .inr (.inr held)
  obtain ⟨_, _, _, oe, vs, T, oT, ts', g, _, q, f1, _⟩ := id n.fly
  refine wpAny_handleBy_nil ?_
  unfold PySem.passOn
  refine wpAny_bind (wpAny_field g q f1 ?_)
  rw [if_neg (by simp : ¬ ((Value.ref T == Value.none) = true))]
  first
    | exact wpAny_bind last
    | exact wpAny_bind (wpAny_pure (wpAny_bind last))
theorem Down.again {hp : Heap} (n : Down X pin σ H a B cls d s0 s3) (fl : HandSPX.FlyingZ B (X.env :: X.outer) a (Zc cls d) hp) (more : s3.heap.UpToSlots hp) : Down X pin σ H a B cls d s0 { s3 with heap := hp } :=
  ⟨n.inv, n.base, fl, n.up.trans more, n.os, n.bare, n.new⟩
/-- a suite's end, as the end of the whole -/
theorem end_plain {q : Addr × Obj} {pn' : List (Addr × Obj)} {f : Flow} {s : Shared} (ok : X.Ok) (h : SP (X.suite a (q :: (X.pn ++ pin))) pn' D f s) : SP X pin D f s := by
  cases f with
  | ret u => obtain ⟨v, σ', H', I, r, e⟩ := h; exact ⟨v, σ', H', I.unsuite ok, r, e⟩
  | next => obtain ⟨σ', H', I, e⟩ := h; exact ⟨σ', H', I.unsuite ok, e⟩
  | brk => obtain ⟨σ', H', I, e⟩ := h; exact ⟨σ', H', I.unsuite ok, e⟩
  | cont => obtain ⟨σ', H', I, e⟩ := h; exact ⟨σ', H', I.unsuite ok, e⟩
theorem end_named {q : Addr × Obj} {pn' : List (Addr × Obj)} {f : Flow} {s : Shared} {i : Nat} {n : Str} {pos : Pos} (ok : X.Ok) (hN : X.N.Nodup) (hi : X.N[i]? = some n) (hln : X.env.kindOf n = some .local) (h : SP (X.suite a (q :: (X.pn ++ pin))) pn' (endsN D (some i)) f s) :
    wpAny (model X.prog X.w) X.A (do bindName X.env n .none; unbindBehindTheSuite X.env n pos) (fun _ s' => SP X pin D f s') X.xe s := by
  cases f with
  | ret u => obtain ⟨v, σ', H', I, r, e⟩ := h; exact gone_ok (I.unsuite ok) hN hi hln fun s' J => ⟨v, _, H', J, r, e⟩
  | next => obtain ⟨σ', H', I, e⟩ := h; exact gone_ok (I.unsuite ok) hN hi hln fun s' J => ⟨_, H', J, e⟩
  | brk => obtain ⟨σ', H', I, e⟩ := h; exact gone_ok (I.unsuite ok) hN hi hln fun s' J => ⟨_, H', J, e⟩
  | cont => obtain ⟨σ', H', I, e⟩ := h; exact gone_ok (I.unsuite ok) hN hi hln fun s' J => ⟨_, H', J, e⟩
theorem Down.clauses (hs : X.stack = X.env :: X.outer) (hf : X.env.frame = some X.env.locals) (tk : Takes X Wout) (n : Down X pin σ H a B cls d s0 s3) {hds : List ExceptHandler} {l : List (Value × Option Nat × TsX)} (hh : HdsMix X hds l) : wMix X.K Wout D l cls d σ H → wpAny (model X.prog X.w) X.A (handleBy (.ref a) X.env hds) (SP X pin D) X.xe s3 := by
  have ok := n.inv.ok
  induction hh with
  | nil => exact fun w => n.pass hs hf tk w
  | cons hc hsu rest ih =>
    rintro ⟨b, hb, yes, no⟩
    refine wpAny_handleBy_cons (codeAny_handlers_test (n.test hf hc (n.is hb ?_))) (fun z => nomatch z)
    cases b with
    | false => exact ih (no rfl)
    | true =>
      refine codeAny_handlers_suite (HandSPX.lands_againZ n.fly fun hp fl more => ?_)
      obtain ⟨oe, vs, g, z, q, S⟩ := (n.again fl more).hold hf
      exact wpAny_mono ((hsu a oe cls d (X.pn ++ pin) z ⟨_, q⟩).run [] _ _ H _ S (yes rfl a n.new)) (fun f s h => end_plain ok h) (fun _ _ z => False.elim z)
  | as hN hi hln hc hsu rest ih =>
    rintro ⟨b, hb, yes, no⟩
    refine wpAny_handleBy_cons (codeAny_handlers_test (n.test hf hc (n.is hb ?_))) (fun z => nomatch z)
    cases b with
    | false => exact ih (no rfl)
    | true =>
      refine codeAny_handlers_suite_as (HandSPX.lands_againZ n.fly fun hp fl more => ?_)
      obtain ⟨oe, vs, g, z, q, S⟩ := (n.again fl more).hold hf
      refine store_ok (X := X.suite a ((a, oe) :: (X.pn ++ pin))) (v := .ref a) S hN hi (.inl hln) rfl (fun s5 S5 => ?_) (.inr hln)
      exact wpAny_mono ((hsu a oe cls d (X.pn ++ pin) z ⟨_, q⟩).run [] s5 _ H _ S5 (yes rfl a n.new)) (fun f s h => end_named ok hN hi hln h) (fun _ _ z => False.elim z)
theorem ps_try_mix {body : List Stmt} {h₀ : ExceptHandler} {hds : List ExceptHandler} {l : List (Value × Option Nat × TsX)} {pos : Pos} {tb : WX → TS} (hs : X.stack = X.env :: X.outer) (hf : X.env.frame = some X.env.locals) (tk : Takes X Wout)
    (hb : ∀ (W : WX) (pn : List (Addr × Obj)) (xe : Value → Shared → Prop), Takes (X.tr pn xe) W → PassesOwn (model X.prog X.w) X.A X.env xe → PSs (X.tr pn xe) body (tb W)) (hh : HdsMix X (h₀ :: hds) l) : PS X (.Try body (h₀ :: hds) [] [] pos) (fun D σ H => tb (wMix X.K Wout D l) D σ H) := by
  refine ⟨fun pin s σ H D I h => wpAny_Try_except ?_⟩
  have ok := I.ok
  have frames : X.A.frames = some (X.env :: X.outer) := ok.frames.trans (by rw [hs])
  have caught : ∀ u s', XE (X.tr (X.pn ++ pin) X.xe) (wMix X.K Wout D l) u s' → wpAny (model X.prog X.w) X.A (noteFrame u X.env) (fun _ s₂ => wpAny (model X.prog X.w) X.A (setFlight u none) (fun _ s₃ => wpAny (model X.prog X.w) X.A (handleBy u X.env (h₀ :: hds)) (SP X pin D) X.xe s₃) X.xe s₂) X.xe s' := by
    rintro u s' ⟨a, B, s0, pin', σ', H', cls, d, rfl, J, nb, up, sky, na, os, ag, w⟩
    have sky : Sky B (X.env :: X.outer) a (Zc cls d) X.env.locals s'.heap := hs ▸ sky
    refine Sky.land Zc.steady frames hf sky fun hp fl more => ?_
    exact Down.clauses (s0 := s0) (s3 := { s' with heap := hp }) hs hf tk ⟨J.ofTry ok, nb, fl, up.trans more, os, ag, na⟩ hh w
  refine wpAny_mono ((hb (wMix X.K Wout D l) (X.pn ++ pin) _ (fun u s' x => caught u s' ?_) PassesOwn.looking).run [] s σ H D (I.toTry _) h) (fun f s1 e => ?_) (fun _ _ z => z)
  · obtain ⟨a, B, s0, pin', σ', H', cls, d, e, J, r⟩ := x
    exact ⟨a, B, s0, [], σ', H', cls, d, e, (J.ofTry ok).toTry X.xe, r⟩
  · cases f with
    | next => obtain ⟨σ', H', J, q⟩ := e; exact wpAny_execs_nil ⟨σ', H', J.ofTry ok, q⟩
    | ret u => obtain ⟨v, σ', H', J, r, q⟩ := e; exact ⟨v, σ', H', J.ofTry ok, r, q⟩
    | brk => obtain ⟨σ', H', J, q⟩ := e; exact ⟨σ', H', J.ofTry ok, q⟩
    | cont => obtain ⟨σ', H', J, q⟩ := e; exact ⟨σ', H', J.ofTry ok, q⟩
end
/-- try with two clauses -/
def mTry2M (K : PySem.W.Frag) (mg : Str → Option Value) (x1 x2 : Str) (i1 i2 : Option Nat) (Wout : WX) (ts1 ts2 : TsX) (tb : WX → TS) : TS := fun D σ H => ∀ c1 c2, mg x1 = some c1 → mg x2 = some c2 → tb (wMix K Wout D [(c1, i1, ts1), (c2, i2, ts2)]) D σ H
theorem nTryMix2 {X : Cx} {x1 x2 : Str} {i1 i2 : Option Nat} {body : List Stmt} {h1 h2 : ExceptHandler} {pos : Pos} {tb : WX → TS} {ts1 ts2 : TsX} {Wout : WX} (hs : X.stack = X.env :: X.outer) (hf : X.env.frame = some X.env.locals) (hx1 : ExcK X.K X.mg x1) (hx2 : ExcK X.K X.mg x2) (tk : Takes X Wout)
    (hb : ∀ (W : WX) (pn : List (Addr × Obj)) (xe : Value → Shared → Prop), Takes (X.tr pn xe) W → PassesOwn (model X.prog X.w) X.A X.env xe → PSs (X.tr pn xe) body (tb W)) (hh : ∀ c1 c2, X.mg x1 = some c1 → X.mg x2 = some c2 → HdsMix X [h1, h2] [(c1, i1, ts1), (c2, i2, ts2)]) :
    PS X (.Try body [h1, h2] [] [] pos) (mTry2M X.K X.mg x1 x2 i1 i2 Wout ts1 ts2 tb) := by
  obtain ⟨C1, g1, _⟩ := hx1.ex
  obtain ⟨C2, g2, _⟩ := hx2.ex
  exact ⟨fun pins s σ H D I h => (ps_try_mix hs hf tk hb (hh _ _ g1 g2)).run pins s σ H D I (h _ _ g1 g2)⟩
theorem sd_try2M {K : PySem.W.Frag} {mg : Str → Option Value} {Eo : XK} {own oN oB oC : List Nat} {n : Nat} {x1 x2 : Str} {i1 i2 : Option Nat} {Wout : WX} {ts1 ts2 : TsX} {tb : WX → TS} {fb : Env → W Out} {h : Str → Option D} (hb : ∀ Wx : WX, SD K mg (XW n Wx) .v [] own oN oB oC (tb Wx) fb) (hn : ∀ m d, h m = some d → d.nol = true)
    (hh : ∀ (c1 c2 : Value) (_ : mg x1 = some c1) (_ : mg x2 = some c2) (De : Ends) (m : Str) (d : D) (cls : Value) (σ : L2.St) (H : Hp), h m = some d → mg m = some cls → σ.length = n → (∀ v H', Ex H H' → Dx K NM H' d v → De.rt v H') → wMix K Wout De [(c1, i1, ts1), (c2, i2, ts2)] cls none σ H) :
    SD K mg Eo .v [] own oN oB oC (mTry2M K mg x1 x2 i1 i2 Wout ts1 ts2 tb) (fTry fb h) := fun M0 B io cs M H σ ρ De hio E run c1 c2 g1 g2 =>
  sd_try (R := fun De => wMix K Wout De [(c1, i1, ts1), (c2, i2, ts2)]) hb hn (hh c1 c2 g1 g2) M0 B io cs M H σ ρ De hio E run
end NV

set_option Elab.async false
set_option linter.all false
set_option maxRecDepth 100000
set_option maxHeartbeats 4000000
/-! # items of tuples, registers, rows -/
namespace NV
open PySem PySem.Spec PyProof.Rows L2
open Evl (Ex)
class AtC (xs : List D) (i : Int) (d : outParam D) : Prop where
  eq : atI xs i = some d
theorem at_nat {xs : List D} {n : Nat} {d : D} (h : xs[n]? = some d) : atI xs (n : Int) = some d := atI_nat h
instance {a l} : AtC (a :: l) 0 a := ⟨at_nat (n := 0) rfl⟩
instance {a b l} : AtC (a :: b :: l) 1 b := ⟨at_nat (n := 1) rfl⟩
instance {a b c l} : AtC (a :: b :: c :: l) 2 c := ⟨at_nat (n := 2) rfl⟩
instance {a b c d l} : AtC (a :: b :: c :: d :: l) 3 d := ⟨at_nat (n := 3) rfl⟩
instance {a b c d e l} : AtC (a :: b :: c :: d :: e :: l) 4 e := ⟨at_nat (n := 4) rfl⟩
instance {a b c d e f l} : AtC (a :: b :: c :: d :: e :: f :: l) 5 f := ⟨at_nat (n := 5) rfl⟩
section
variable {qd : D → Prop} {qb : Bool → Prop} {ql : List D → Prop} {e : Str → Prop}
theorem wo_ixlC {xs : List D} {i : Int} {d : D} [g : AtC xs i d] (h : qd d) : (dIx (.lst xs) (.int i)).rn qd e := wo_ixl g.eq h
theorem wo_ixtC {xs : List D} {i : Int} {d : D} [g : AtC xs i d] (h : qd d) : (dIx (.tup xs) (.int i)).rn qd e := wo_ixt g.eq h
theorem wo_ixp {rows : List Row} {i : Nat} {r : Row} (g : rows[i]? = some r) (h : qd r.x) : (dIx (prgX rows) (.int (i : Int))).rn qd e := wo_ixl (atI_nat (by rw [List.getElem?_map, g]; rfl)) h
theorem reg_at {rs : List Tr} {a : Nat} (ha : a < rs.length) : rs[a]? = some (regT rs a) := by
  unfold regT
  rw [List.getD_eq_getElem?_getD, List.getElem?_eq_getElem ha]; rfl
theorem wo_reg {rs : List Tr} {a : Nat} (ha : a < rs.length) (h : qd (treeX (regT rs a))) : (dIx (.lst (rs.map treeX)) (.int (a : Int))).rn qd e := wo_ixl (atI_nat (by rw [List.getElem?_map, reg_at ha]; rfl)) h
theorem wo_regt {rs : List Tr} {a : Nat} (ha : a < rs.length) (h : qd (treeX (regT rs a))) : (dIx (.tup (rs.map treeX)) (.int (a : Int))).rn qd e := wo_ixt (atI_nat (by rw [List.getElem?_map, reg_at ha]; rfl)) h
theorem wk_subr {q : Out → Prop} {ρ : Env} {i a : Nat} {rs : List Tr} {t : Tr} (ha : a < rs.length) (h : Kset i ρ q (.lst ((rs.set a t).map treeX))) : Ksub i (rs.map treeX) (treeX t) ρ q (.int (a : Int)) := by
  refine wk_sub (by rw [List.length_map]; exact ha) ?_
  rw [List.map_set] at h
  exact h
theorem wo_addtr {a b : Tr} (hl : a.enc.length + b.enc.length ≤ 10000000) (h : qd (treeX (.n a b))) : (dAdd (.str ([49] ++ a.enc)) (treeX b)).rn qd e := by
  refine wo_adds (by rw [List.length_append]; show 1 + a.enc.length + b.enc.length ≤ _; omega) ?_
  have e1 : [49] ++ a.enc ++ b.enc = (Tr.n a b).enc := by simp [Tr.enc]
  rw [e1]; exact h
theorem wo_add1 {a : Tr} (hl : a.enc.length ≤ 10000000) (h : qd (.str ([49] ++ a.enc))) : (dAdd (.str [49]) (treeX a)).rn qd e := wo_adds (by show 1 + a.enc.length ≤ _; omega) h
theorem eqAll_trees : ∀ rs rs' : List Tr, eqAll (rs.map treeX) (rs'.map treeX) = decide (rs = rs')
  | [], [] => rfl
  | [], _ :: _ => rfl
  | _ :: _, [] => rfl
  | t :: r, t' :: r' => by
    show (decide (t.enc = t'.enc) && eqAll (r.map treeX) (r'.map treeX)) = _
    rw [eqAll_trees r r']
    by_cases g : t = t'
    · by_cases g' : r = r'
      · simp [g, g']
      · simp [g, g']
    · have : t.enc ≠ t'.enc := fun z => g (enc_inj1 z)
      simp [g, this]
theorem flat_trees : ∀ (rs : List Tr) (n : Nat), flatAll (rs.map treeX) n = true
  | [], _ => rfl
  | t :: r, n => by
    show ((treeX t).flat n && flatAll (r.map treeX) n) = true
    rw [flat_tree, flat_trees r n]; rfl
end
/-- a step, whatever the sizes -/
def stepU (r : Row) (i : Nat) (rs : List Tr) : Nat × List Tr := match r with
  | .jump a n => (if regT rs a = .l then i + 1 else ((i : Int) + n).toNat, rs)
  | .set a t => (i + 1, rs.set a t)
  | .move a b => (i + 1, rs.set a (regT rs b))
  | .cons a b c => (i + 1, rs.set a (.n (regT rs b) (regT rs c)))
  | .head a b => (i + 1, rs.set a (regT rs b).hd)
  | .tail a b => (i + 1, rs.set a (regT rs b).tl)
theorem stepU_R {rows : List Row} {i : Nat} {r : Row} {rs : List Tr} (h : rows[i]? = some r) (hs : regsN 90000 rs) : stepR rows i rs = .nx (stepU r i rs).1 (stepU r i rs).2 := by
  unfold stepR
  rw [h]
  cases r with
  | jump a n =>
    dsimp only [stepU]
    by_cases g : regT rs a = .l
    · rw [if_pos g, if_pos g]
    · rw [if_neg g, if_neg g]
  | cons a b c =>
    have h1 := regT_le hs (by decide) b
    have h2 := regT_le hs (by decide) c
    dsimp only [stepU]
    rw [if_neg (by omega)]
  | _ => rfl
theorem stepU_len (r : Row) (i : Nat) (rs : List Tr) : (stepU r i rs).2.length = rs.length := by
  cases r <;> simp [stepU]
theorem reg0_map (x : Tr) : (reg0 x).map treeX = [treeX x] ++ List.replicate 19 (.str [48]) := by
  simp [reg0, treeX, Tr.enc]
/-- the longest of the registers -/
theorem maxL_mem {n : Int} {ns : List Int} {m : Int} (h : maxL n ns ≤ m) : n ≤ m ∧ ∀ x ∈ ns, x ≤ m := by
  obtain ⟨h1, h2, _⟩ := maxL_ge ns n
  exact ⟨Int.le_trans h1 h, fun x hx => Int.le_trans (h2 x hx) h⟩
class TyC (x : D) (t : outParam String) : Prop where
  eq : tyD x = some t
instance : TyC .non "NoneType" := ⟨rfl⟩
instance {b} : TyC (.bl b) "bool" := ⟨rfl⟩
instance {b} : TyC (.int b) "int" := ⟨rfl⟩
instance {b} : TyC (.str b) "str" := ⟨rfl⟩
instance {b} : TyC (.lst b) "list" := ⟨rfl⟩
instance {b} : TyC (.tup b) "tuple" := ⟨rfl⟩
instance {b} : TyC (treeX b) "str" := ⟨rfl⟩
instance {b} : TyC (prgX b) "list" := ⟨rfl⟩
instance {b c} : TyC (stX b c) "tuple" := ⟨rfl⟩
instance {r : Row} : TyC r.x "tuple" := ⟨by cases r <;> rfl⟩
class KitC (t n : String) (b : outParam Bool) : Prop where
  eq : kitB t n = some b
instance : KitC "NoneType" "tuple" false := ⟨rfl⟩
instance : KitC "bool" "tuple" false := ⟨rfl⟩
instance : KitC "int" "tuple" false := ⟨rfl⟩
instance : KitC "str" "tuple" false := ⟨rfl⟩
instance : KitC "list" "tuple" false := ⟨rfl⟩
instance : KitC "tuple" "tuple" true := ⟨rfl⟩
instance : KitC "NoneType" "bool" false := ⟨rfl⟩
instance : KitC "bool" "bool" true := ⟨rfl⟩
instance : KitC "int" "bool" false := ⟨rfl⟩
instance : KitC "str" "bool" false := ⟨rfl⟩
instance : KitC "list" "bool" false := ⟨rfl⟩
instance : KitC "tuple" "bool" false := ⟨rfl⟩
instance : KitC "NoneType" "int" false := ⟨rfl⟩
instance : KitC "bool" "int" true := ⟨rfl⟩
instance : KitC "int" "int" true := ⟨rfl⟩
instance : KitC "str" "int" false := ⟨rfl⟩
instance : KitC "list" "int" false := ⟨rfl⟩
instance : KitC "tuple" "int" false := ⟨rfl⟩
instance : KitC "NoneType" "str" false := ⟨rfl⟩
instance : KitC "bool" "str" false := ⟨rfl⟩
instance : KitC "int" "str" false := ⟨rfl⟩
instance : KitC "str" "str" true := ⟨rfl⟩
instance : KitC "list" "str" false := ⟨rfl⟩
instance : KitC "tuple" "str" false := ⟨rfl⟩
instance : KitC "NoneType" "list" false := ⟨rfl⟩
instance : KitC "bool" "list" false := ⟨rfl⟩
instance : KitC "int" "list" false := ⟨rfl⟩
instance : KitC "str" "list" false := ⟨rfl⟩
instance : KitC "list" "list" true := ⟨rfl⟩
instance : KitC "tuple" "list" false := ⟨rfl⟩
theorem wo_isiC {x : D} {t n : String} {b : Bool} {qd : D → Prop} {e : Str → Prop} [a : TyC x t] [k : KitC t n b] (h : qd (.bl b)) : (dIsi x (.ty n)).rn qd e := wo_isi a.eq k.eq h
theorem wo_totr {rs : List Tr} {qd : D → Prop} {e : Str → Prop} (h : qd (.tup (rs.map treeX))) : (dToTup (.lst (rs.map treeX))).rn qd e := h
theorem okRow_le {v w cnt i : Nat} {r : Row} (h : OkRow v cnt i r) (hw : v ≤ w) : OkRow w cnt i r := by
  cases r with
  | jump a n => exact ⟨Nat.lt_of_lt_of_le h.1 hw, h.2⟩
  | _ => exact fun x hx => Nat.lt_of_lt_of_le (h x hx) hw
theorem okPrg_le {v w : Nat} {p : List Row} (h : OkPrg v p) (hw : v ≤ w) : OkPrg w p := fun i r hr => okRow_le (h i r hr) hw
theorem trees_small {n m : Nat} {p : List Row} (h : treesLe n p) (hm : 2 * n + 1 ≤ m) : treesN m p := fun r hr => by
  cases r with
  | set a t =>
    have h3 := h _ hr t rfl
    have el := t.enc_len
    show t.enc.length ≤ _
    omega
  | _ => show 1 ≤ m; omega
/-- a run's result, by its steps -/
theorem run_of_go {rows : List Row} {c n : Nat} {i : Nat} {rs rs' : List Tr} (h : goR rows c i rs = some (rows.length, rs')) (hn : c ≤ n) : runR rows n i rs = .done (regT rs' 0) c := go_done h hn
theorem out_of_go {rows : List Row} {k i : Nat} {rs : List Tr} {i' : Nat} {rs' : List Tr} (h : goR rows k i rs = some (i', rs')) (n : i' ≠ rows.length) : runR rows k i rs = .out := goR_end h n
theorem aft_of_go {rows : List Row} : ∀ {k i : Nat} {rs : List Tr} {i' : Nat} {rs' : List Tr}, goR rows k i rs = some (i', rs') → aftR rows k i rs = some (i', rs', k)
  | 0, i, rs, i', rs', h => by cases h; rfl
  | k + 1, i, rs, i', rs', h => by
    obtain ⟨g, i1, r1, e, h⟩ := goR_one h
    rw [aftR_step g e, aft_of_go h]; rfl
theorem aft_end {rows : List Row} {rs : List Tr} : ∀ m, aftR rows m rows.length rs = some (rows.length, rs, 0)
  | 0 => rfl
  | m + 1 => by rw [aftR_succ, if_pos rfl]
theorem aft_of_end {rows : List Row} : ∀ {c n i : Nat} {rs rs' : List Tr}, goR rows c i rs = some (rows.length, rs') → c ≤ n → aftR rows n i rs = some (rows.length, rs', c)
  | 0, n, i, rs, rs', h, hn => by cases h; exact aft_end n
  | c + 1, 0, i, rs, rs', h, hn => absurd hn (by omega)
  | c + 1, n + 1, i, rs, rs', h, hn => by
    obtain ⟨g, i1, r1, e, h⟩ := goR_one h
    rw [aftR_step g e, aft_of_end h (by omega)]; rfl
/-- fewer steps than it takes to end -/
theorem out_before {rows : List Row} : ∀ {c n i : Nat} {rs rs' : List Tr}, goR rows c i rs = some (rows.length, rs') → n < c → runR rows n i rs = .out
  | 0, n, i, rs, rs', h, hn => absurd hn (by omega)
  | c + 1, 0, i, rs, rs', h, hn => by
    obtain ⟨g, i1, r1, e, h⟩ := goR_one h
    unfold runR
    rw [if_neg g]
  | c + 1, n + 1, i, rs, rs', h, hn => by
    obtain ⟨g, i1, r1, e, h⟩ := goR_one h
    rw [runR_step g e, out_before h (by omega)]; rfl
theorem wo_reg0 {rs : List Tr} {qd : D → Prop} {e : Str → Prop} (h0 : rs.length ≠ 0) (h : qd (treeX (regT rs 0))) : (dIx (.lst (rs.map treeX)) (.int 0)).rn qd e := wo_reg (a := 0) (by omega) h
theorem wq_refl {d : D} {qb : Bool → Prop} {e : Str → Prop} (f : d.flat 64 = true) (h : qb true) : (dEqv d d).rn qb e := by
  refine dEqv_ok (.inl ⟨f, f⟩) ?_
  rw [eqD_refl d 64 f]; exact h
theorem flat_ti (t : Tr) (c : Int) : (D.tup [treeX t, .int c]).flat 64 = true := by
  show ((treeX t).flat 63 && (true && true)) = true
  rw [flat_tree]; rfl
theorem flat_st (i : Nat) (rs : List Tr) : (stX i rs).flat 64 = true := by
  show (true && (flatAll (rs.map treeX) 62 && true)) = true
  rw [flat_trees]; rfl
theorem wo_pick {xs : List D} {v : Nat} {qd : D → Prop} {e : Str → Prop} (hv : v < xs.length) (h : ∀ d ∈ xs, qd d) : (dIx (.lst xs) (.int (v : Int))).rn qd e :=
  wo_ixl (atI_nat (List.getElem?_eq_getElem hv)) (h _ (List.getElem_mem hv))
theorem wo_mult {a : List D} {n : Int} {qd : D → Prop} {e : Str → Prop} (h0 : a ≠ []) (h1 : 2 ≤ n ∧ n ≤ 1000) (hl : a.length ≤ 1000) (h : qd (.tup (List.replicate n.toNat a).flatten)) : (dMul (.tup a) (.int n)).rn qd e := ⟨⟨h0, h1.1, h1.2, hl⟩, h⟩
/-- sizes behind a step: twice as large at most -/
theorem stepU_sz {C : Nat} {r : Row} {i : Nat} {rs : List Tr} (h : ∀ t ∈ rs, t.enc.length + 1 ≤ C) (hC : 2 ≤ C) (hr : (rowN r).enc.length + 1 ≤ 2 * C) : ∀ t ∈ (stepU r i rs).2, t.enc.length + 1 ≤ 2 * C := by
  have rl : ∀ b, (regT rs b).enc.length + 1 ≤ C := fun b => by
    rcases regT_mem (rs := rs) b with q | q
    · exact h _ q
    · rw [q]; show 1 + 1 ≤ C; exact hC
  have st : ∀ a u, u.enc.length + 1 ≤ 2 * C → ∀ t ∈ rs.set a u, t.enc.length + 1 ≤ 2 * C := fun a u hu t ht => by
    rcases List.mem_or_eq_of_mem_set ht with q | q
    · have := h t q; omega
    · rw [q]; exact hu
  cases r with
  | jump a n => intro t ht; have := h t ht; omega
  | set a t => exact st a t hr
  | move a b => exact st a _ (by have := rl b; omega)
  | cons a b c =>
    refine st a _ ?_
    have h1 := rl b
    have h2 := rl c
    simp only [Tr.enc, List.length_cons, List.length_append]
    omega
  | head a b => exact st a _ (by have h1 := rl b; have h2 := hd_le (regT rs b); omega)
  | tail a b => exact st a _ (by have h1 := rl b; have h2 := tl_le (regT rs b); omega)
theorem w_if {A B : Prop} {b : Bool} (h : Kif A B b) : if b = true then A else B := h
theorem wo_muli {i j : Int} {qd : D → Prop} {e : Str → Prop} (h : CMul i j) (k : qd (.int (i * j))) : (dMul (.int i) (.int j)).rn qd e := ⟨h, k⟩
theorem wq_nons {l : List Nat} {qb : Bool → Prop} {e : Str → Prop} (h : qb false) : (dEqv .non (.str l)).rn qb e := h
theorem tree_ne {t : Tr} {l : List Nat} (h : l.head? ≠ some 48 ∧ l.head? ≠ some 49) : ¬ t.enc = l := fun q => by
  subst q
  cases t with
  | l => exact h.1 rfl
  | n a b => exact h.2 rfl
/-- a tree is no word -/
theorem wq_treew {t : Tr} {c : Nat} {l : List Nat} {qb : Bool → Prop} {e : Str → Prop} (hc : c ≠ 48 ∧ c ≠ 49) (h : qb false) : (dEqv (treeX t) (.str (c :: l))).rn qb e := by
  refine wq_trees ?_
  rw [decide_eq_false (tree_ne ⟨fun q => hc.1 (by simpa using q), fun q => hc.2 (by simpa using q)⟩)]
  exact h
end NV

set_option Elab.async false
set_option linter.all false
set_option maxRecDepth 100000
set_option maxHeartbeats 400000
/-! # blocks of instructions, wherever they stand -/
namespace NV
open PySem PySem.Spec PyProof.Rows L2
open Evl (Ex)
/-- the block B goes from R to R' in k steps, and is left at its end -/
def Blk (B : List Row) (k : Nat) (R R' : List Tr) : Prop := ∀ pre suf : List Row, goR (pre ++ (B ++ suf)) k pre.length R = some (pre.length + B.length, R')
/-- after k steps the block is not left -/
def OutB (B : List Row) (k : Nat) (R : List Tr) : Prop := ∀ pre suf : List Row, ∃ i R', i < B.length ∧ goR (pre ++ (B ++ suf)) k pre.length R = some (pre.length + i, R')
theorem blk_nil (R : List Tr) : Blk [] 0 R R := fun pre suf => by
  show some (pre.length, R) = _
  rfl
theorem blk_app {A B : List Row} {k m : Nat} {R R1 R2 : List Tr} (h1 : Blk A k R R1) (h2 : Blk B m R1 R2) : Blk (A ++ B) (k + m) R R2 := fun pre suf => by
  have e1 := h1 pre (B ++ suf)
  have e2 := h2 (pre ++ A) suf
  rw [List.length_append, List.append_assoc] at e2
  rw [List.append_assoc, goR_add e1, e2, List.length_append, Nat.add_assoc]
theorem blk_out {A B : List Row} {k m : Nat} {R R1 : List Tr} (h1 : Blk A k R R1) (h2 : OutB B m R1) : OutB (A ++ B) (k + m) R := fun pre suf => by
  have e1 := h1 pre (B ++ suf)
  obtain ⟨i, R', hi, e2⟩ := h2 (pre ++ A) suf
  rw [List.length_append, List.append_assoc] at e2
  refine ⟨A.length + i, R', by rw [List.length_append]; omega, ?_⟩
  rw [List.append_assoc, goR_add e1, e2, Nat.add_assoc]
theorem out_app {A B : List Row} {k : Nat} {R : List Tr} (h : OutB A k R) : OutB (A ++ B) k R := fun pre suf => by
  obtain ⟨i, R', hi, e⟩ := h pre (B ++ suf)
  exact ⟨i, R', by rw [List.length_append]; omega, by rw [List.append_assoc]; exact e⟩
theorem blk_end {B : List Row} {k : Nat} {R R' : List Tr} (h : Blk B k R R') : goR B k 0 R = some (B.length, R') := by
  have := h [] []
  simpa using this
theorem out_end {B : List Row} {k : Nat} {R : List Tr} (h : OutB B k R) : ∃ i R', i < B.length ∧ goR B k 0 R = some (i, R') := by
  obtain ⟨i, R', hi, e⟩ := h [] []
  exact ⟨i, R', hi, by simpa using e⟩
theorem at_mid {pre B suf : List Row} {r : Row} (h : B = [r]) : (pre ++ (B ++ suf))[pre.length]? = some r := by
  rw [List.getElem?_append_right (Nat.le_refl _), Nat.sub_self, h]; rfl
theorem len_mid {pre suf : List Row} {r : Row} : pre.length ≠ (pre ++ ([r] ++ suf)).length := by
  rw [List.length_append, List.length_append, List.length_singleton]; omega
theorem blk_row {r : Row} {R R' : List Tr} (h : ∀ rows i, rows[i]? = some r → stepR rows i R = .nx (i + 1) R') : Blk [r] 1 R R' := fun pre suf => by
  rw [goR_step len_mid (h _ _ (at_mid rfl))]; rfl
theorem blk_set (a : Nat) (t : Tr) (R : List Tr) : Blk [.set a t] 1 R (R.set a t) := blk_row fun rows i h => by unfold stepR; rw [h]
theorem blk_move (a b : Nat) (R : List Tr) : Blk [.move a b] 1 R (R.set a (regT R b)) := blk_row fun rows i h => by unfold stepR; rw [h]
theorem blk_head (a b : Nat) (R : List Tr) : Blk [.head a b] 1 R (R.set a (regT R b).hd) := blk_row fun rows i h => by unfold stepR; rw [h]
theorem blk_tail (a b : Nat) (R : List Tr) : Blk [.tail a b] 1 R (R.set a (regT R b).tl) := blk_row fun rows i h => by unfold stepR; rw [h]
theorem blk_cons (a b c : Nat) (R : List Tr) (h : 1 + (regT R b).enc.length + (regT R c).enc.length ≤ 200000) : Blk [.cons a b c] 1 R (R.set a (.n (regT R b) (regT R c))) := blk_row fun rows i g => by
  unfold stepR
  rw [g]
  dsimp only
  rw [if_neg (by omega)]
theorem blk_stay (a : Nat) (n : Int) (R : List Tr) (h : regT R a = .l) : Blk [.jump a n] 1 R R := blk_row fun rows i g => by
  unfold stepR
  rw [g]
  dsimp only
  rw [if_pos h]
/-- a jump over a block -/
theorem blk_skip {a : Nat} {n : Int} {S : List Row} {R : List Tr} (h : regT R a ≠ .l) (hn : n = ((1 + S.length : Nat) : Int)) : Blk (.jump a n :: S) 1 R R := fun pre suf => by
  have e : pre ++ ((.jump a n :: S) ++ suf) = pre ++ ([Row.jump a n] ++ (S ++ suf)) := by simp
  have g : (pre ++ ([Row.jump a n] ++ (S ++ suf)))[pre.length]? = some (.jump a n) := at_mid rfl
  rw [e]
  have st : stepR (pre ++ ([Row.jump a n] ++ (S ++ suf))) pre.length R = .nx (pre.length + (1 + S.length)) R := by
    unfold stepR
    rw [g]
    dsimp only
    rw [if_neg h]
    congr 1
    omega
  rw [goR_step len_mid st, List.length_cons, Nat.add_comm 1 S.length]; rfl
/-- a program leaves the registers beyond its own as they are -/
theorem keep_step {v : Nat} {rows : List Row} (ok : OkPrg v rows) {i i' : Nat} {R R' : List Tr} (e : stepR rows i R = .nx i' R') : ∀ a, v ≤ a → regT R' a = regT R a := by
  intro a ha
  unfold stepR at e
  cases q : rows[i]? with
  | none => rw [q] at e; cases e; rfl
  | some r =>
    rw [q] at e
    have rg := (ok i r q).regs
    cases r with
    | jump b n =>
      dsimp only at e
      split at e <;> cases e <;> rfl
    | set b t => cases e; exact regT_other (by have := rg b (List.mem_cons_self ..); omega)
    | move b c => cases e; exact regT_other (by have := rg b (List.mem_cons_self ..); omega)
    | cons b c d =>
      dsimp only at e
      split at e
      · cases e
      · cases e; exact regT_other (by have := rg b (List.mem_cons_self ..); omega)
    | head b c => cases e; exact regT_other (by have := rg b (List.mem_cons_self ..); omega)
    | tail b c => cases e; exact regT_other (by have := rg b (List.mem_cons_self ..); omega)
theorem keep_go {v : Nat} {rows : List Row} (ok : OkPrg v rows) : ∀ {k i i' : Nat} {R R' : List Tr}, goR rows k i R = some (i', R') → ∀ a, v ≤ a → regT R' a = regT R a
  | 0, i, i', R, R', e => by cases e; exact fun _ _ => rfl
  | k + 1, i, i', R, R', e => by
    obtain ⟨g, i1, R1, e1, e2⟩ := goR_one e
    exact fun a ha => (keep_go ok e2 a ha).trans (keep_step ok e1 a ha)
/-- a program as a block, from registers that are alike -/
theorem prog_blk {v k : Nat} {p : List Row} {y : Tr} {r1 R : List Tr} (ok : OkPrg v p) (h1 : 1 ≤ v) (hv : v ≤ 20) (go : goR p k 0 (reg0 y) = some (p.length, r1)) (hl : R.length = 20) (al : Alike v (reg0 y) R) :
    ∃ R', Blk p k R R' ∧ regT R' 0 = regT r1 0 ∧ R'.length = 20 ∧ ∀ a, v ≤ a → regT R' a = regT R a := by
  obtain ⟨R', g1, g2, g3⟩ := alike_go ok al (by show v ≤ 20; exact hv) (by omega) go
  refine ⟨R', fun pre suf => ?_, (g2 0 h1).symm, by omega, keep_go ok g1⟩
  have := emb_go (pre := pre) (suf := suf) ok (Nat.zero_le _) g1
  rwa [Nat.add_zero] at this
theorem prog_out {v k i : Nat} {p : List Row} {y : Tr} {r1 R : List Tr} (ok : OkPrg v p) (hv : v ≤ 20) (go : goR p k 0 (reg0 y) = some (i, r1)) (hi : i < p.length) (hl : R.length = 20) (al : Alike v (reg0 y) R) : OutB p k R := fun pre suf => by
  obtain ⟨R', g1, g2, g3⟩ := alike_go ok al (by show v ≤ 20; exact hv) (by omega) go
  have := emb_go (pre := pre) (suf := suf) ok (Nat.zero_le _) g1
  rw [Nat.add_zero] at this
  exact ⟨i, R', hi, this⟩
theorem clean_blk {m : Nat} {R : List Tr} (hl : R.length = 20) (hm : m ≤ 20) : ∃ R', Blk (clean m) (m - 1) R R' ∧ R'.length = 20 ∧ regT R' 0 = regT R 0 ∧ (∀ a, 1 ≤ a → a < m → regT R' a = .l) ∧ ∀ a, m ≤ a → regT R' a = regT R a := by
  obtain ⟨R', g1, g2, g3, g4⟩ := clean_go (m := m) (rs := R) (by omega) (m - 1) (Nat.le_refl _)
  have okc : OkPrg m (clean m) := okPrg_clean m (Nat.le_refl _)
  refine ⟨R', fun pre suf => ?_, by omega, g3, fun a h1 h2 => g4 a h1 (by omega), keep_go okc g1⟩
  have := emb_go (pre := pre) (suf := suf) okc (Nat.zero_le _) g1
  rw [clean_length]
  rwa [Nat.add_zero] at this
/-- registers set back are like those at a start -/
theorem alike_of {m : Nat} {R : List Tr} {y : Tr} (h0 : regT R 0 = y) (h : ∀ a, 1 ≤ a → a < m → regT R a = .l) : Alike m (reg0 y) R := fun a ha => by
  cases a with
  | zero => exact h0.symm
  | succ a =>
    rw [h (a + 1) (by omega) ha]
    show (List.replicate 19 Tr.l).getD a .l = .l
    rw [List.getD_eq_getElem?_getD, List.getElem?_replicate]
    split <;> rfl
theorem reg0_at (y : Tr) (a : Nat) : regT (reg0 y) a = if a = 0 then y else .l := by
  cases a with
  | zero => rfl
  | succ a =>
    rw [if_neg (by omega)]
    show (List.replicate 19 Tr.l).getD a .l = .l
    rw [List.getD_eq_getElem?_getD, List.getElem?_replicate]
    split <;> rfl
theorem maxL_nat : ∀ (l : List Nat) (n : Nat), maxL (n : Int) (l.map fun x => ((x : Nat) : Int)) = ((l.foldl max n : Nat) : Int)
  | [], n => rfl
  | m :: r, n => by
    show maxL (if (n : Int) < (m : Int) then (m : Int) else (n : Int)) _ = _
    have : (if (n : Int) < (m : Int) then (m : Int) else (n : Int)) = ((max n m : Nat) : Int) := by split <;> omega
    rw [this, maxL_nat r]; rfl
/-- the greatest width of some programs -/
def wmax (ps : List (List Row)) : Nat := (ps.map wd).foldl max 1
def moveW (w : Nat) : List Row := [.move w 0]
def backW (w : Nat) : List Row := [.move 0 w]
def oneT : Tr := .n .l .l
def bothR (p q : List Row) : List Row := [Row.move (wmax [p, q]) 0] ++ p ++ [.move (wmax [p, q] + 1) 0, .move 0 (wmax [p, q])] ++ clean (wd q) ++ q ++ [.cons 0 (wmax [p, q] + 1) 0]
def yesR (w : Nat) (p : List Row) : List Row := [Row.move 0 w] ++ clean (wd p) ++ p
def noR (w : Nat) (p : List Row) : List Row := yesR w p ++ [.set w oneT]
def choiceR (c p q : List Row) : List Row := [Row.move (wmax [c, p, q]) 0] ++ c ++ [.jump 0 (((noR (wmax [c, p, q]) q).length : Nat) + 2)] ++ noR (wmax [c, p, q]) q ++ [.jump (wmax [c, p, q]) (((yesR (wmax [c, p, q]) p).length : Nat) + 1)] ++ yesR (wmax [c, p, q]) p
def loopS (w : Nat) (c : List Row) : List Row := [Row.move w 0] ++ clean (wd c) ++ c
def loopF (w : Nat) (c p : List Row) : List Row := loopS w c ++ [.jump 0 4] ++ [.move 0 w, .set w oneT] ++ [.jump w (((noR w p).length : Nat) + 2)] ++ noR w p
def loopR (c p : List Row) : List Row := loopF (wmax [c, p]) c p ++ [.jump (wmax [c, p]) (-(((loopF (wmax [c, p]) c p).length : Nat) : Int))]
section
variable {qd : D → Prop} {e : Str → Prop}
theorem wo_addpl {l p : List Row} {ds : List D} (hd : ds = l.map Row.x) (hl : l.length + p.length ≤ 16777216) (h : qd (prgX (l ++ p))) : (dAdd (.lst ds) (prgX p)).rn qd e := by
  subst hd; exact wo_addp (p := l) hl h
theorem wo_addpr {l p : List Row} {ds : List D} (hd : ds = l.map Row.x) (hl : p.length + l.length ≤ 16777216) (h : qd (prgX (p ++ l))) : (dAdd (prgX p) (.lst ds)).rn qd e := by
  subst hd; exact wo_addp (r := l) hl h
end
theorem clean_len (m : Nat) : (clean m).length ≤ m := by rw [clean_length]; omega
end NV

set_option Elab.async false
set_option linter.all false
set_option maxRecDepth 100000
set_option maxHeartbeats 400000
/-! # what programs out of programs return -/
namespace NV
open PySem PySem.Spec PyProof.Rows L2
open Evl (Ex)
theorem regs_fold : ∀ (l : List Nat) (m : Nat), m ≤ l.foldl (fun m r => max m (r + 1)) m ∧ ∀ x ∈ l, x < l.foldl (fun m r => max m (r + 1)) m
  | [], m => ⟨Nat.le_refl _, fun x h => nomatch h⟩
  | y :: l, m => by
    obtain ⟨h1, h2⟩ := regs_fold l (max m (y + 1))
    refine ⟨by show m ≤ l.foldl _ (max m (y + 1)); omega, fun x hx => ?_⟩
    show x < l.foldl _ (max m (y + 1))
    rcases List.mem_cons.mp hx with q | q
    · omega
    · exact h2 x q
theorem okWd {v : Nat} {p : List Row} (h : OkPrg v p) : OkPrg (wd p) p := fun i r hr => by
  have o := h i r hr
  have hx : ∀ x ∈ r.regs, x < wd p := fun x hx => (regs_fold (regsOf p) 1).2 x (by
    unfold regsOf
    exact List.mem_flatten.mpr ⟨r.regs, List.mem_map.mpr ⟨r, mem_of_get hr, rfl⟩, hx⟩)
  cases r with
  | jump a n => exact ⟨hx a (List.mem_cons_self ..), o.2⟩
  | _ => exact hx
theorem wdPos (p : List Row) : 1 ≤ wd p := (regs_fold (regsOf p) 1).1
theorem wdLe {v : Nat} {p : List Row} (h : OkPrg v p) (hv : 1 ≤ v) : wd p ≤ v := wd_le hv h.regs
/-- p ends on y with z, after k steps -/
def Ends (p : List Row) (y : Tr) (k : Nat) (z : Tr) : Prop := ∃ r1, goR p k 0 (reg0 y) = some (p.length, r1) ∧ regT r1 0 = z
/-- p has not ended on y after n steps -/
def Goes (p : List Row) (y : Tr) (n : Nat) : Prop := ∃ i r1, i < p.length ∧ goR p n 0 (reg0 y) = some (i, r1)
theorem Ends.run {p : List Row} {y : Tr} {k n : Nat} {z : Tr} (h : Ends p y k z) (hn : k ≤ n) : runR p n 0 (reg0 y) = .done z k := by
  obtain ⟨r1, h1, h2⟩ := h
  rw [run_of_go h1 hn, h2]
theorem Ends.out {p : List Row} {y : Tr} {k n : Nat} {z : Tr} (h : Ends p y k z) (hn : n < k) : runR p n 0 (reg0 y) = .out := by
  obtain ⟨r1, h1, h2⟩ := h
  exact out_before h1 hn
theorem Goes.out {p : List Row} {y : Tr} {k n : Nat} (h : Goes p y k) (hn : n ≤ k) : runR p n 0 (reg0 y) = .out := by
  obtain ⟨i, r1, h1, h2⟩ := h
  by_cases g : n = k
  · subst g
    exact out_of_go h2 (by omega)
  · exact goR_out h2 (by omega)
theorem blk_ends {B : List Row} {k : Nat} {y z : Tr} {R' : List Tr} (h : Blk B k (reg0 y) R') (hz : regT R' 0 = z) : Ends B y k z := ⟨R', blk_end h, hz⟩
theorem out_goes {B : List Row} {k : Nat} {y : Tr} (h : OutB B k (reg0 y)) : Goes B y k := by
  obtain ⟨i, R', hi, e⟩ := out_end h
  exact ⟨i, R', hi, e⟩
/-- a program behind its cleaning, from any registers -/
theorem sub_blk {v k : Nat} {p : List Row} {y z : Tr} {R : List Tr} (ok : OkPrg v p) (hv : 1 ≤ v ∧ v ≤ 20) (h : Ends p y k z) (hl : R.length = 20) (h0 : regT R 0 = y) :
    ∃ R', Blk (clean (wd p) ++ p) ((wd p - 1) + k) R R' ∧ R'.length = 20 ∧ regT R' 0 = z ∧ ∀ a, wd p ≤ a → regT R' a = regT R a := by
  have w1 := wdPos p
  have w2 := wdLe ok hv.1
  obtain ⟨r1, g, gz⟩ := h
  obtain ⟨R1, b1, l1, z1, c1, k1⟩ := clean_blk (m := wd p) hl (by omega)
  obtain ⟨R2, b2, z2, l2, k2⟩ := prog_blk (okWd ok) w1 (by omega) g l1 (alike_of (z1.trans h0) c1)
  exact ⟨R2, blk_app b1 b2, l2, z2.trans gz, fun a ha => (k2 a ha).trans (k1 a ha)⟩
theorem sub_out {v n : Nat} {p : List Row} {y : Tr} {R : List Tr} (ok : OkPrg v p) (hv : 1 ≤ v ∧ v ≤ 20) (h : Goes p y n) (hl : R.length = 20) (h0 : regT R 0 = y) : OutB (clean (wd p) ++ p) ((wd p - 1) + n) R := by
  have w2 := wdLe ok hv.1
  obtain ⟨i, r1, hi, g⟩ := h
  obtain ⟨R1, b1, l1, z1, c1, k1⟩ := clean_blk (m := wd p) hl (by omega)
  exact blk_out b1 (prog_out (okWd ok) (by omega) g hi l1 (alike_of (z1.trans h0) c1))
/-- a program from the first registers, of which one beyond its own is set -/
theorem first_blk {v k w : Nat} {p : List Row} {y z u : Tr} (ok : OkPrg v p) (hv : 1 ≤ v ∧ v ≤ 20) (h : Ends p y k z) (hw : wd p ≤ w) (hw2 : w < 20) :
    ∃ R', Blk p k ((reg0 y).set w u) R' ∧ R'.length = 20 ∧ regT R' 0 = z ∧ (∀ a, wd p ≤ a → a ≠ w → regT R' a = .l) ∧ regT R' w = u := by
  have w1 := wdPos p
  have w2 := wdLe ok hv.1
  obtain ⟨r1, g, gz⟩ := h
  have al : Alike (wd p) (reg0 y) ((reg0 y).set w u) := fun a ha => by rw [regT_other (by omega)]
  obtain ⟨R2, b2, z2, l2, k2⟩ := prog_blk (okWd ok) w1 (by omega) g (by rw [List.length_set]; rfl) al
  refine ⟨R2, b2, l2, z2.trans gz, fun a ha na => ?_, ?_⟩
  · rw [k2 a ha, regT_other (fun q => na q.symm), reg0_at, if_neg (by omega)]
  · rw [k2 w hw, regT_self (by show w < 20; exact hw2)]
theorem first_out {v n w : Nat} {p : List Row} {y u : Tr} (ok : OkPrg v p) (hv : 1 ≤ v ∧ v ≤ 20) (h : Goes p y n) (hw : wd p ≤ w) : OutB p n ((reg0 y).set w u) := by
  have w2 := wdLe ok hv.1
  obtain ⟨i, r1, hi, g⟩ := h
  have al : Alike (wd p) (reg0 y) ((reg0 y).set w u) := fun a ha => by rw [regT_other (by omega)]
  exact prog_out (okWd ok) (by omega) g hi (by rw [List.length_set]; rfl) al
theorem move0 {w : Nat} (y : Tr) : Blk [.move w 0] 1 (reg0 y) ((reg0 y).set w y) := blk_move w 0 (reg0 y)
section
variable {v w : Nat} {c p q : List Row} {y : Tr}
/-- both -/
theorem both_end {k1 k2 : Nat} {a b : Tr} (okp : OkPrg v p) (okq : OkPrg v q) (hv : 1 ≤ v ∧ v ≤ 16) (hp : Ends p y k1 a) (hq : Ends q y k2 b) (hs : 1 + a.enc.length + b.enc.length ≤ 200000) : Ends (bothR p q) y (k1 + k2 + 4 + (wd q - 1)) (.n a b) := by
  have p1 := wdPos p
  have q1 := wdPos q
  have p2 := wdLe okp hv.1
  have q2 := wdLe okq hv.1
  have hv' : 1 ≤ v ∧ v ≤ 20 := ⟨hv.1, by omega⟩
  have ew : wmax [p, q] = max (max 1 (wd p)) (wd q) := rfl
  unfold bothR
  generalize wmax [p, q] = w at ew
  obtain ⟨R2, b2, l2, z2, e2, s2⟩ := first_blk (w := w) (u := y) okp hv' hp (by omega) (by omega)
  have b3 := blk_move (w + 1) 0 R2
  have b4 := blk_move 0 w (R2.set (w + 1) (regT R2 0))
  have l4 : ((R2.set (w + 1) (regT R2 0)).set 0 (regT (R2.set (w + 1) (regT R2 0)) w)).length = 20 := by rw [List.length_set, List.length_set]; exact l2
  have z4 : regT ((R2.set (w + 1) (regT R2 0)).set 0 (regT (R2.set (w + 1) (regT R2 0)) w)) 0 = y := by
    rw [regT_self (by rw [List.length_set]; omega), regT_other (by omega)]; exact s2
  have y4 : regT ((R2.set (w + 1) (regT R2 0)).set 0 (regT (R2.set (w + 1) (regT R2 0)) w)) (w + 1) = a := by
    rw [regT_other (by omega), regT_self (by omega)]; exact z2
  generalize (R2.set (w + 1) (regT R2 0)).set 0 (regT (R2.set (w + 1) (regT R2 0)) w) = R4 at b4 l4 z4 y4
  obtain ⟨R5, b5, l5, z5, k5⟩ := sub_blk okq hv' hq l4 z4
  have y5 : regT R5 (w + 1) = a := (k5 (w + 1) (by omega)).trans y4
  have b6 := blk_cons 0 (w + 1) 0 R5 (by rw [y5, z5]; exact hs)
  have all := blk_app (blk_app (blk_app (blk_app (blk_app (move0 (w := w) y) b2) b3) b4) b5) b6
  have fin := blk_ends all (z := .n a b) (by rw [regT_self (by omega), y5, z5])
  have e1 : [Row.move w 0] ++ p ++ [Row.move (w + 1) 0] ++ [Row.move 0 w] ++ (clean (wd q) ++ q) ++ [Row.cons 0 (w + 1) 0] = [Row.move w 0] ++ p ++ [.move (w + 1) 0, .move 0 w] ++ clean (wd q) ++ q ++ [.cons 0 (w + 1) 0] := by simp
  rw [e1] at fin
  rw [show k1 + k2 + 4 + (wd q - 1) = 1 + k1 + 1 + 1 + (wd q - 1 + k2) + 1 by omega]
  exact fin
theorem both_go1 {n : Nat} (okp : OkPrg v p) (hv : 1 ≤ v ∧ v ≤ 16) (hp : Goes p y n) : Goes (bothR p q) y (1 + n) := by
  have ew : wmax [p, q] = max (max 1 (wd p)) (wd q) := rfl
  unfold bothR
  generalize wmax [p, q] = w at ew
  have o := first_out (w := w) (u := y) okp ⟨hv.1, by omega⟩ hp (by omega)
  exact out_goes (out_app (out_app (out_app (out_app (blk_out (move0 y) o)))))
theorem both_go2 {k1 n : Nat} {a : Tr} (okp : OkPrg v p) (okq : OkPrg v q) (hv : 1 ≤ v ∧ v ≤ 16) (hp : Ends p y k1 a) (hq : Goes q y n) : Goes (bothR p q) y (k1 + 3 + (wd q - 1) + n) := by
  have p1 := wdPos p
  have q1 := wdPos q
  have p2 := wdLe okp hv.1
  have q2 := wdLe okq hv.1
  have hv' : 1 ≤ v ∧ v ≤ 20 := ⟨hv.1, by omega⟩
  have ew : wmax [p, q] = max (max 1 (wd p)) (wd q) := rfl
  unfold bothR
  generalize wmax [p, q] = w at ew
  obtain ⟨R2, b2, l2, z2, e2, s2⟩ := first_blk (w := w) (u := y) okp hv' hp (by omega) (by omega)
  have b3 := blk_move (w + 1) 0 R2
  have b4 := blk_move 0 w (R2.set (w + 1) (regT R2 0))
  have l4 : ((R2.set (w + 1) (regT R2 0)).set 0 (regT (R2.set (w + 1) (regT R2 0)) w)).length = 20 := by rw [List.length_set, List.length_set]; exact l2
  have z4 : regT ((R2.set (w + 1) (regT R2 0)).set 0 (regT (R2.set (w + 1) (regT R2 0)) w)) 0 = y := by
    rw [regT_self (by rw [List.length_set]; omega), regT_other (by omega)]; exact s2
  have o := sub_out okq hv' hq l4 z4
  have fin := out_goes (out_app (B := [Row.cons 0 (w + 1) 0]) (blk_out (blk_app (blk_app (blk_app (move0 (w := w) y) b2) b3) b4) o))
  have e1 : [Row.move w 0] ++ p ++ [Row.move (w + 1) 0] ++ [Row.move 0 w] ++ (clean (wd q) ++ q) ++ [Row.cons 0 (w + 1) 0] = [Row.move w 0] ++ p ++ [.move (w + 1) 0, .move 0 w] ++ clean (wd q) ++ q ++ [.cons 0 (w + 1) 0] := by simp
  rw [e1] at fin
  rw [show k1 + 3 + (wd q - 1) + n = 1 + k1 + 1 + 1 + (wd q - 1 + n) by omega]
  exact fin
/-- chain of two -/
theorem chain2 : chainR 0 [p, q] = p ++ (clean (wd q) ++ q) := by simp [chainR, link]
theorem first0 {k : Nat} {z : Tr} (okp : OkPrg v p) (hv : 1 ≤ v ∧ v ≤ 20) (hp : Ends p y k z) : ∃ R', Blk p k (reg0 y) R' ∧ R'.length = 20 ∧ regT R' 0 = z := by
  have w1 := wdPos p
  have w2 := wdLe okp hv.1
  obtain ⟨r1, g, gz⟩ := hp
  obtain ⟨R2, b2, z2, l2, k2⟩ := prog_blk (okWd okp) w1 (by omega) g rfl (Alike.refl _ _)
  exact ⟨R2, b2, l2, z2.trans gz⟩
theorem chain_end {k1 k2 : Nat} {a b : Tr} (okp : OkPrg v p) (okq : OkPrg v q) (hv : 1 ≤ v ∧ v ≤ 16) (hp : Ends p y k1 a) (hq : Ends q a k2 b) : Ends (chainR 0 [p, q]) y (k1 + (wd q - 1) + k2) b := by
  have hv' : 1 ≤ v ∧ v ≤ 20 := ⟨hv.1, by omega⟩
  obtain ⟨R1, b1, l1, z1⟩ := first0 okp hv' hp
  obtain ⟨R2, b2, l2, z2, _⟩ := sub_blk okq hv' hq l1 z1
  rw [chain2, Nat.add_assoc]
  exact blk_ends (blk_app b1 b2) z2
theorem chain_go1 {n : Nat} (okp : OkPrg v p) (hv : 1 ≤ v ∧ v ≤ 16) (hp : Goes p y n) : Goes (chainR 0 [p, q]) y n := by
  have w2 := wdLe okp hv.1
  obtain ⟨i, r1, hi, g⟩ := hp
  rw [chain2]
  exact out_goes (out_app (prog_out (okWd okp) (by omega) g hi rfl (Alike.refl _ _)))
theorem chain_go2 {k1 n : Nat} {a : Tr} (okp : OkPrg v p) (okq : OkPrg v q) (hv : 1 ≤ v ∧ v ≤ 16) (hp : Ends p y k1 a) (hq : Goes q a n) : Goes (chainR 0 [p, q]) y (k1 + (wd q - 1) + n) := by
  have hv' : 1 ≤ v ∧ v ≤ 20 := ⟨hv.1, by omega⟩
  obtain ⟨R1, b1, l1, z1⟩ := first0 okp hv' hp
  rw [chain2, Nat.add_assoc]
  exact out_goes (blk_out b1 (sub_out okq hv' hq l1 z1))
/-- the parts of a choice -/
theorem yes_blk {k : Nat} {z : Tr} {R : List Tr} (ok : OkPrg v p) (hv : 1 ≤ v ∧ v ≤ 20) (h : Ends p y k z) (hl : R.length = 20) (hw : regT R w = y) (h1 : 1 ≤ w) : ∃ R', Blk (yesR w p) (1 + (wd p - 1) + k) R R' ∧ R'.length = 20 ∧ regT R' 0 = z ∧ ∀ a, wd p ≤ a → regT R' a = regT R a := by
  have p1 := wdPos p
  have b1 := blk_move 0 w R
  obtain ⟨R2, b2, l2, z2, k2⟩ := sub_blk ok hv h (R := R.set 0 (regT R w)) (by rw [List.length_set]; exact hl) (by rw [regT_self (by omega)]; exact hw)
  refine ⟨R2, ?_, l2, z2, fun a ha => by rw [k2 a ha, regT_other (by omega)]⟩
  have := blk_app b1 b2
  unfold yesR
  rw [List.append_assoc, Nat.add_assoc]
  exact this
theorem yes_out {n : Nat} {R : List Tr} (ok : OkPrg v p) (hv : 1 ≤ v ∧ v ≤ 20) (h : Goes p y n) (hl : R.length = 20) (hw : regT R w = y) : OutB (yesR w p) (1 + (wd p - 1) + n) R := by
  have b1 := blk_move 0 w R
  have o := sub_out ok hv h (R := R.set 0 (regT R w)) (by rw [List.length_set]; exact hl) (by rw [regT_self (by omega)]; exact hw)
  have := blk_out b1 o
  unfold yesR
  rw [List.append_assoc, Nat.add_assoc]
  exact this
theorem no_blk {k : Nat} {z : Tr} {R : List Tr} (ok : OkPrg v p) (hv : 1 ≤ v ∧ v ≤ 20) (h : Ends p y k z) (hl : R.length = 20) (hw : regT R w = y) (h1 : 1 ≤ w) (h2 : w < 20) : ∃ R', Blk (noR w p) (1 + (wd p - 1) + k + 1) R R' ∧ R'.length = 20 ∧ regT R' 0 = z ∧ regT R' w = oneT := by
  obtain ⟨R2, b2, l2, z2, _⟩ := yes_blk ok hv h hl hw h1
  exact ⟨_, blk_app b2 (blk_set w oneT R2), by rw [List.length_set]; exact l2, by rw [regT_other (by omega)]; exact z2, regT_self (by omega)⟩
theorem one_ne : oneT ≠ .l := fun h => nomatch h
theorem choice_yes {k0 k1 : Nat} {a z : Tr} (okc : OkPrg v c) (okp : OkPrg v p) (hv : 1 ≤ v ∧ v ≤ 16) (hc : Ends c y k0 a) (ha : a ≠ .l) (hp : Ends p y k1 z) (hq : wd q ≤ 16) : Ends (choiceR c p q) y (3 + k0 + (wd p - 1) + k1) z := by
  have c1 := wdPos c
  have c2 := wdLe okc hv.1
  have p2 := wdLe okp hv.1
  have hv' : 1 ≤ v ∧ v ≤ 20 := ⟨hv.1, by omega⟩
  have ew : wmax [c, p, q] = max (max (max 1 (wd c)) (wd p)) (wd q) := rfl
  unfold choiceR
  generalize wmax [c, p, q] = w at ew
  obtain ⟨R2, b2, l2, z2, e2, s2⟩ := first_blk (w := w) (u := y) okc hv' hc (by omega) (by omega)
  have b3 := blk_skip (a := 0) (n := ((noR w q).length : Nat) + 2) (S := noR w q ++ [.jump w (((yesR w p).length : Nat) + 1)]) (R := R2) (by rw [z2]; exact ha) (by rw [List.length_append, List.length_singleton]; omega)
  obtain ⟨R4, b4, l4, z4, _⟩ := yes_blk (w := w) okp hv' hp l2 s2 (by omega)
  have fin := blk_ends (blk_app (blk_app (blk_app (move0 (w := w) y) b2) b3) b4) z4
  have e1 : [Row.move w 0] ++ c ++ (.jump 0 (((noR w q).length : Nat) + 2) :: (noR w q ++ [.jump w (((yesR w p).length : Nat) + 1)])) ++ yesR w p = [Row.move w 0] ++ c ++ [.jump 0 (((noR w q).length : Nat) + 2)] ++ noR w q ++ [.jump w (((yesR w p).length : Nat) + 1)] ++ yesR w p := by simp
  rw [e1] at fin
  rw [show 3 + k0 + (wd p - 1) + k1 = 1 + k0 + 1 + (1 + (wd p - 1) + k1) by omega]
  exact fin
theorem choice_yes_go {k0 n : Nat} {a : Tr} (okc : OkPrg v c) (okp : OkPrg v p) (hv : 1 ≤ v ∧ v ≤ 16) (hc : Ends c y k0 a) (ha : a ≠ .l) (hp : Goes p y n) (hq : wd q ≤ 16) : Goes (choiceR c p q) y (3 + k0 + (wd p - 1) + n) := by
  have c1 := wdPos c
  have c2 := wdLe okc hv.1
  have p2 := wdLe okp hv.1
  have hv' : 1 ≤ v ∧ v ≤ 20 := ⟨hv.1, by omega⟩
  have ew : wmax [c, p, q] = max (max (max 1 (wd c)) (wd p)) (wd q) := rfl
  unfold choiceR
  generalize wmax [c, p, q] = w at ew
  obtain ⟨R2, b2, l2, z2, e2, s2⟩ := first_blk (w := w) (u := y) okc hv' hc (by omega) (by omega)
  have b3 := blk_skip (a := 0) (n := ((noR w q).length : Nat) + 2) (S := noR w q ++ [.jump w (((yesR w p).length : Nat) + 1)]) (R := R2) (by rw [z2]; exact ha) (by rw [List.length_append, List.length_singleton]; omega)
  have o := yes_out (w := w) okp hv' hp l2 s2
  have fin := out_goes (blk_out (blk_app (blk_app (move0 (w := w) y) b2) b3) o)
  have e1 : [Row.move w 0] ++ c ++ (.jump 0 (((noR w q).length : Nat) + 2) :: (noR w q ++ [.jump w (((yesR w p).length : Nat) + 1)])) ++ yesR w p = [Row.move w 0] ++ c ++ [.jump 0 (((noR w q).length : Nat) + 2)] ++ noR w q ++ [.jump w (((yesR w p).length : Nat) + 1)] ++ yesR w p := by simp
  rw [e1] at fin
  rw [show 3 + k0 + (wd p - 1) + n = 1 + k0 + 1 + (1 + (wd p - 1) + n) by omega]
  exact fin
theorem choice_no {k0 k2 : Nat} {z : Tr} (okc : OkPrg v c) (okq : OkPrg v q) (hv : 1 ≤ v ∧ v ≤ 16) (hc : Ends c y k0 .l) (hq : Ends q y k2 z) (hp : wd p ≤ 16) : Ends (choiceR c p q) y (3 + k0 + (wd q - 1) + k2 + 2) z := by
  have c1 := wdPos c
  have c2 := wdLe okc hv.1
  have q2 := wdLe okq hv.1
  have hv' : 1 ≤ v ∧ v ≤ 20 := ⟨hv.1, by omega⟩
  have ew : wmax [c, p, q] = max (max (max 1 (wd c)) (wd p)) (wd q) := rfl
  unfold choiceR
  generalize wmax [c, p, q] = w at ew
  obtain ⟨R2, b2, l2, z2, e2, s2⟩ := first_blk (w := w) (u := y) okc hv' hc (by omega) (by omega)
  have b3 := blk_stay 0 (((noR w q).length : Nat) + 2) R2 z2
  obtain ⟨R4, b4, l4, z4, w4⟩ := no_blk (w := w) okq hv' hq l2 s2 (by omega) (by omega)
  have b5 := blk_skip (a := w) (n := ((yesR w p).length : Nat) + 1) (S := yesR w p) (R := R4) (by rw [w4]; exact one_ne) (by omega)
  have fin := blk_ends (blk_app (blk_app (blk_app (blk_app (move0 (w := w) y) b2) b3) b4) b5) z4
  have e1 : [Row.move w 0] ++ c ++ [.jump 0 (((noR w q).length : Nat) + 2)] ++ noR w q ++ (.jump w (((yesR w p).length : Nat) + 1) :: yesR w p) = [Row.move w 0] ++ c ++ [.jump 0 (((noR w q).length : Nat) + 2)] ++ noR w q ++ [.jump w (((yesR w p).length : Nat) + 1)] ++ yesR w p := by simp
  rw [e1] at fin
  rw [show 3 + k0 + (wd q - 1) + k2 + 2 = 1 + k0 + 1 + (1 + (wd q - 1) + k2 + 1) + 1 by omega]
  exact fin
theorem choice_no_go {k0 n : Nat} (okc : OkPrg v c) (okq : OkPrg v q) (hv : 1 ≤ v ∧ v ≤ 16) (hc : Ends c y k0 .l) (hq : Goes q y n) (hp : wd p ≤ 16) : Goes (choiceR c p q) y (3 + k0 + (wd q - 1) + n) := by
  have c1 := wdPos c
  have c2 := wdLe okc hv.1
  have q2 := wdLe okq hv.1
  have hv' : 1 ≤ v ∧ v ≤ 20 := ⟨hv.1, by omega⟩
  have ew : wmax [c, p, q] = max (max (max 1 (wd c)) (wd p)) (wd q) := rfl
  unfold choiceR
  generalize wmax [c, p, q] = w at ew
  obtain ⟨R2, b2, l2, z2, e2, s2⟩ := first_blk (w := w) (u := y) okc hv' hc (by omega) (by omega)
  have b3 := blk_stay 0 (((noR w q).length : Nat) + 2) R2 z2
  have o := out_app (B := [.set w oneT]) (yes_out (w := w) okq hv' hq l2 s2)
  have fin := out_goes (out_app (B := [.jump w (((yesR w p).length : Nat) + 1)] ++ yesR w p) (blk_out (blk_app (blk_app (move0 (w := w) y) b2) b3) o))
  have e1 : [Row.move w 0] ++ c ++ [.jump 0 (((noR w q).length : Nat) + 2)] ++ (yesR w q ++ [.set w oneT]) ++ ([.jump w (((yesR w p).length : Nat) + 1)] ++ yesR w p) = [Row.move w 0] ++ c ++ [.jump 0 (((noR w q).length : Nat) + 2)] ++ noR w q ++ [.jump w (((yesR w p).length : Nat) + 1)] ++ yesR w p := by simp [noR]
  rw [e1] at fin
  rw [show 3 + k0 + (wd q - 1) + n = 1 + k0 + 1 + (1 + (wd q - 1) + n) by omega]
  exact fin
theorem choice_go {n : Nat} (okc : OkPrg v c) (hv : 1 ≤ v ∧ v ≤ 16) (hc : Goes c y n) : Goes (choiceR c p q) y (1 + n) := by
  have ew : wmax [c, p, q] = max (max (max 1 (wd c)) (wd p)) (wd q) := rfl
  unfold choiceR
  generalize wmax [c, p, q] = w at ew
  have o := first_out (w := w) (u := y) okc ⟨hv.1, by omega⟩ hc (by omega)
  exact out_goes (out_app (out_app (out_app (out_app (blk_out (move0 y) o)))))
/-! loops -/
theorem start_blk {k : Nat} {z : Tr} {R : List Tr} (ok : OkPrg v c) (hv : 1 ≤ v ∧ v ≤ 20) (h : Ends c y k z) (hl : R.length = 20) (h0 : regT R 0 = y) (hw : wd c ≤ w) (h2 : w < 20) : ∃ R', Blk (loopS w c) (1 + (wd c - 1) + k) R R' ∧ R'.length = 20 ∧ regT R' 0 = z ∧ regT R' w = y := by
  have c1 := wdPos c
  have b1 := blk_move w 0 R
  obtain ⟨R2, b2, l2, z2, k2⟩ := sub_blk ok hv h (R := R.set w (regT R 0)) (by rw [List.length_set]; exact hl) (by rw [regT_other (by omega)]; exact h0)
  refine ⟨R2, ?_, l2, z2, by rw [k2 w hw, regT_self (by omega)]; exact h0⟩
  have := blk_app b1 b2
  unfold loopS
  rw [List.append_assoc, Nat.add_assoc]
  exact this
theorem start_out {n : Nat} {R : List Tr} (ok : OkPrg v c) (hv : 1 ≤ v ∧ v ≤ 20) (h : Goes c y n) (hl : R.length = 20) (h0 : regT R 0 = y) (hw : wd c ≤ w) : OutB (loopS w c) (1 + (wd c - 1) + n) R := by
  have c1 := wdPos c
  have b1 := blk_move w 0 R
  have o := sub_out ok hv h (R := R.set w (regT R 0)) (by rw [List.length_set]; exact hl) (by rw [regT_other (by omega)]; exact h0)
  have := blk_out b1 o
  unfold loopS
  rw [List.append_assoc, Nat.add_assoc]
  exact this
/-- the loop ends -/
theorem loop_end {k0 : Nat} {R : List Tr} (okc : OkPrg v c) (hv : 1 ≤ v ∧ v ≤ 16) (hp : wd p ≤ 16) (hc : Ends c y k0 .l) (hl : R.length = 20) (h0 : regT R 0 = y) : ∃ R', goR (loopR c p) (1 + (wd c - 1) + k0 + 4) 0 R = some ((loopR c p).length, R') ∧ regT R' 0 = y := by
  have c1 := wdPos c
  have c2 := wdLe okc hv.1
  have hv' : 1 ≤ v ∧ v ≤ 20 := ⟨hv.1, by omega⟩
  have ew : wmax [c, p] = max (max 1 (wd c)) (wd p) := rfl
  unfold loopR
  generalize wmax [c, p] = w at ew
  obtain ⟨R2, b2, l2, z2, s2⟩ := start_blk (w := w) okc hv' hc hl h0 (by omega) (by omega)
  have b3 := blk_stay 0 4 R2 z2
  have b4 := blk_move 0 w R2
  have b5 := blk_set w oneT (R2.set 0 (regT R2 w))
  have b6 := blk_skip (a := w) (n := ((noR w p).length : Nat) + 2) (S := noR w p ++ [.jump w (-(((loopF w c p).length : Nat) : Int))]) (R := (R2.set 0 (regT R2 w)).set w oneT) (by rw [regT_self (by rw [List.length_set]; omega)]; exact one_ne) (by rw [List.length_append, List.length_singleton]; omega)
  have fin := blk_end (blk_app (blk_app (blk_app (blk_app b2 b3) b4) b5) b6)
  have e1 : loopS w c ++ [.jump 0 4] ++ [.move 0 w] ++ [.set w oneT] ++ (.jump w (((noR w p).length : Nat) + 2) :: (noR w p ++ [.jump w (-(((loopF w c p).length : Nat) : Int))])) = loopF w c p ++ [.jump w (-(((loopF w c p).length : Nat) : Int))] := by simp [loopF]
  rw [e1] at fin
  refine ⟨_, by rw [show 1 + (wd c - 1) + k0 + 4 = 1 + (wd c - 1) + k0 + 1 + 1 + 1 + 1 by omega]; exact fin, ?_⟩
  rw [regT_other (by omega), regT_self (by omega)]
  exact s2
/-- a round more -/
theorem loop_next {k0 k1 : Nat} {a z : Tr} {R : List Tr} (okc : OkPrg v c) (okp : OkPrg v p) (hv : 1 ≤ v ∧ v ≤ 16) (hc : Ends c y k0 a) (ha : a ≠ .l) (hp : Ends p y k1 z) (hl : R.length = 20) (h0 : regT R 0 = y) : ∃ R', goR (loopR c p) (1 + (wd c - 1) + k0 + 1 + (1 + (wd p - 1) + k1 + 1) + 1) 0 R = some (0, R') ∧ R'.length = 20 ∧ regT R' 0 = z := by
  have c1 := wdPos c
  have c2 := wdLe okc hv.1
  have p2 := wdLe okp hv.1
  have hv' : 1 ≤ v ∧ v ≤ 20 := ⟨hv.1, by omega⟩
  have ew : wmax [c, p] = max (max 1 (wd c)) (wd p) := rfl
  unfold loopR
  generalize wmax [c, p] = w at ew
  obtain ⟨R2, b2, l2, z2, s2⟩ := start_blk (w := w) okc hv' hc hl h0 (by omega) (by omega)
  have b3 := blk_skip (a := 0) (n := 4) (S := [.move 0 w, .set w oneT] ++ [.jump w (((noR w p).length : Nat) + 2)]) (R := R2) (by rw [z2]; exact ha) rfl
  obtain ⟨R4, b4, l4, z4, w4⟩ := no_blk (w := w) okp hv' hp l2 s2 (by omega) (by omega)
  have fin := (blk_app (blk_app b2 b3) b4) [] [.jump w (-(((loopF w c p).length : Nat) : Int))]
  have e1 : loopS w c ++ (.jump 0 4 :: ([.move 0 w, .set w oneT] ++ [.jump w (((noR w p).length : Nat) + 2)])) ++ noR w p = loopF w c p := by simp [loopF]
  rw [e1, List.nil_append, List.length_nil, Nat.zero_add] at fin
  refine ⟨R4, ?_, l4, z4⟩
  rw [goR_add fin]
  have g : (loopF w c p ++ [Row.jump w (-(((loopF w c p).length : Nat) : Int))])[(loopF w c p).length]? = some (.jump w (-(((loopF w c p).length : Nat) : Int))) := by
    rw [List.getElem?_append_right (Nat.le_refl _), Nat.sub_self]; rfl
  have st : stepR (loopF w c p ++ [Row.jump w (-(((loopF w c p).length : Nat) : Int))]) (loopF w c p).length R4 = .nx 0 R4 := by
    unfold stepR
    rw [g]
    dsimp only
    rw [if_neg (by rw [w4]; exact one_ne)]
    congr 1
    omega
  rw [goR_step (by rw [List.length_append, List.length_singleton]; omega) st]; rfl
theorem loop_go1 {n : Nat} {R : List Tr} (okc : OkPrg v c) (hv : 1 ≤ v ∧ v ≤ 16) (hc : Goes c y n) (hl : R.length = 20) (h0 : regT R 0 = y) : ∃ i R', i < (loopR c p).length ∧ goR (loopR c p) (1 + (wd c - 1) + n) 0 R = some (i, R') := by
  have ew : wmax [c, p] = max (max 1 (wd c)) (wd p) := rfl
  unfold loopR
  generalize wmax [c, p] = w at ew
  have o := start_out (w := w) okc ⟨hv.1, by omega⟩ hc hl h0 (by omega)
  have fin := out_end (out_app (B := [.jump 0 4] ++ [.move 0 w, .set w oneT] ++ [.jump w (((noR w p).length : Nat) + 2)] ++ noR w p ++ [.jump w (-(((loopF w c p).length : Nat) : Int))]) o)
  have e1 : loopS w c ++ ([.jump 0 4] ++ [.move 0 w, .set w oneT] ++ [.jump w (((noR w p).length : Nat) + 2)] ++ noR w p ++ [.jump w (-(((loopF w c p).length : Nat) : Int))]) = loopF w c p ++ [.jump w (-(((loopF w c p).length : Nat) : Int))] := by simp [loopF]
  rw [e1] at fin
  exact fin
theorem loop_go2 {k0 n : Nat} {a : Tr} {R : List Tr} (okc : OkPrg v c) (okp : OkPrg v p) (hv : 1 ≤ v ∧ v ≤ 16) (hc : Ends c y k0 a) (ha : a ≠ .l) (hp : Goes p y n) (hl : R.length = 20) (h0 : regT R 0 = y) : ∃ i R', i < (loopR c p).length ∧ goR (loopR c p) (1 + (wd c - 1) + k0 + 1 + (1 + (wd p - 1) + n)) 0 R = some (i, R') := by
  have c1 := wdPos c
  have c2 := wdLe okc hv.1
  have p2 := wdLe okp hv.1
  have hv' : 1 ≤ v ∧ v ≤ 20 := ⟨hv.1, by omega⟩
  have ew : wmax [c, p] = max (max 1 (wd c)) (wd p) := rfl
  unfold loopR
  generalize wmax [c, p] = w at ew
  obtain ⟨R2, b2, l2, z2, s2⟩ := start_blk (w := w) okc hv' hc hl h0 (by omega) (by omega)
  have b3 := blk_skip (a := 0) (n := 4) (S := [.move 0 w, .set w oneT] ++ [.jump w (((noR w p).length : Nat) + 2)]) (R := R2) (by rw [z2]; exact ha) rfl
  have o := out_app (B := [.set w oneT]) (yes_out (w := w) okp hv' hp l2 s2)
  have fin := out_end (out_app (B := [.jump w (-(((loopF w c p).length : Nat) : Int))]) (blk_out (blk_app b2 b3) o))
  have e1 : loopS w c ++ (.jump 0 4 :: ([.move 0 w, .set w oneT] ++ [.jump w (((noR w p).length : Nat) + 2)])) ++ (yesR w p ++ [.set w oneT]) ++ [.jump w (-(((loopF w c p).length : Nat) : Int))] = loopF w c p ++ [.jump w (-(((loopF w c p).length : Nat) : Int))] := by simp [loopF, noR]
  rw [e1] at fin
  exact fin
end
/-! they are programs -/
/-- rows that stand from off on in a program of cnt -/
def OkSeg (v off cnt : Nat) (rows : List Row) : Prop := ∀ i r, rows[i]? = some r → OkRow v cnt (off + i) r
theorem seg_app {v off cnt : Nat} {A B : List Row} (hA : OkSeg v off cnt A) (hB : OkSeg v (off + A.length) cnt B) : OkSeg v off cnt (A ++ B) := fun i r hr => by
  by_cases c1 : i < A.length
  · rw [List.getElem?_append_left c1] at hr
    exact hA i r hr
  · rw [List.getElem?_append_right (by omega)] at hr
    have := hB _ r hr
    rwa [show off + A.length + (i - A.length) = off + i by omega] at this
theorem seg_prg {v off cnt : Nat} {p : List Row} (h : OkPrg v p) (hc : off + p.length ≤ cnt) : OkSeg v off cnt p := fun i r hr => by
  have o := h i r hr
  cases r with
  | jump b m => exact ⟨o.1, by have := o.2.1; omega, by have := o.2.2; omega⟩
  | _ => exact o
theorem seg_jump {v off cnt a : Nat} {n : Int} (ha : a < v) (h1 : 0 ≤ (off : Int) + n) (h2 : (off : Int) + n ≤ cnt) : OkSeg v off cnt [.jump a n] := fun i r hr => by
  cases i with
  | zero => cases hr; exact ⟨ha, h1, h2⟩
  | succ i => simp at hr
theorem seg_ok {v : Nat} {rows : List Row} (h : OkSeg v 0 rows.length rows) : OkPrg v rows := fun i r hr => by
  have := h i r hr
  rwa [Nat.zero_add] at this
theorem okPrg_one {v : Nat} {r : Row} (h : ∀ x ∈ r.regs, x < v) (hj : ∀ a n, r ≠ .jump a n) : OkPrg v [r] := fun i s hs => by
  cases i with
  | zero =>
    cases hs
    cases r with
    | jump a n => exact absurd rfl (hj a n)
    | _ => exact h
  | succ i => simp at hs
theorem okMove {v a b : Nat} (ha : a < v) (hb : b < v) : OkPrg v [.move a b] := okPrg_one (fun x hx => by
  have hx : x ∈ [a, b] := hx
  simp at hx; omega) (fun _ _ => nofun)
theorem okSet {v a : Nat} {t : Tr} (ha : a < v) : OkPrg v [.set a t] := okPrg_one (fun x hx => by
  have hx : x ∈ [a] := hx
  simp at hx; omega) (fun _ _ => nofun)
theorem okCons {v a b c : Nat} (ha : a < v) (hb : b < v) (hc : c < v) : OkPrg v [.cons a b c] := okPrg_one (fun x hx => by
  have hx : x ∈ [a, b, c] := hx
  simp at hx; omega) (fun _ _ => nofun)
section
variable {v : Nat} {c p q : List Row}
theorem okYes {w : Nat} (hw : w < 20) (okp : OkPrg 20 p) : OkPrg 20 (yesR w p) := okPrg_app (okPrg_app (okMove (by decide) hw) (okPrg_clean _ (wdLe okp (by decide)))) okp
theorem okNo {w : Nat} (hw : w < 20) (okp : OkPrg 20 p) : OkPrg 20 (noR w p) := okPrg_app (okYes hw okp) (okSet hw)
theorem okBoth (okp : OkPrg 20 p) (okq : OkPrg 20 q) (hw : wmax [p, q] ≤ 16) : OkPrg 20 (bothR p q) := by
  unfold bothR
  exact okPrg_app (okPrg_app (okPrg_app (okPrg_app (okPrg_app (okMove (by omega) (by decide)) okp) (okPrg_app (p := [.move (wmax [p, q] + 1) 0]) (q := [.move 0 (wmax [p, q])]) (okMove (by omega) (by decide)) (okMove (by decide) (by omega)))) (okPrg_clean _ (wdLe okq (by decide)))) okq) (okCons (by decide) (by omega) (by decide))
theorem okChoice (okc : OkPrg 20 c) (okp : OkPrg 20 p) (okq : OkPrg 20 q) (hw : wmax [c, p, q] ≤ 16) : OkPrg 20 (choiceR c p q) := by
  refine seg_ok ?_
  have hl : (choiceR c p q).length = 1 + c.length + 1 + (noR (wmax [c, p, q]) q).length + 1 + (yesR (wmax [c, p, q]) p).length := by
    unfold choiceR
    simp only [List.length_append, List.length_cons, List.length_nil]
  rw [hl]
  unfold choiceR
  refine seg_app (seg_app (seg_app (seg_app (seg_app (seg_prg (okMove (by omega) (by decide)) ?_) (seg_prg okc ?_)) (seg_jump (by decide) ?_ ?_)) (seg_prg (okNo (by omega) okq) ?_)) (seg_jump (by omega) ?_ ?_)) (seg_prg (okYes (by omega) okp) ?_)
  all_goals (try simp only [List.length_append, List.length_cons, List.length_nil])
  all_goals omega
theorem okLoop (okc : OkPrg 20 c) (okp : OkPrg 20 p) (hw : wmax [c, p] ≤ 16) : OkPrg 20 (loopR c p) := by
  have okS : OkPrg 20 (loopS (wmax [c, p]) c) := okPrg_app (okPrg_app (okMove (by omega) (by decide)) (okPrg_clean _ (wdLe okc (by decide)))) okc
  have okL : OkPrg 20 [.move 0 (wmax [c, p]), .set (wmax [c, p]) oneT] := okPrg_app (p := [.move 0 (wmax [c, p])]) (q := [.set (wmax [c, p]) oneT]) (okMove (by decide) (by omega)) (okSet (by omega))
  have okN : OkPrg 20 (noR (wmax [c, p]) p) := okNo (by omega) okp
  have lF : (loopF (wmax [c, p]) c p).length = (loopS (wmax [c, p]) c).length + (noR (wmax [c, p]) p).length + 4 := by
    unfold loopF
    simp only [List.length_append, List.length_cons, List.length_nil]
    omega
  refine seg_ok ?_
  have hl : (loopR c p).length = (loopS (wmax [c, p]) c).length + (noR (wmax [c, p]) p).length + 5 := by
    unfold loopR
    rw [List.length_append, lF, List.length_singleton]
  rw [hl]
  unfold loopR
  rw [lF]
  refine seg_app ?_ (seg_jump (by omega) ?_ ?_)
  · unfold loopF
    refine seg_app (seg_app (seg_app (seg_app (seg_prg okS ?_) (seg_jump (by decide) ?_ ?_)) (seg_prg okL ?_)) (seg_jump (by omega) ?_ ?_)) (seg_prg okN ?_)
    all_goals (try simp only [List.length_append, List.length_cons, List.length_nil])
    all_goals omega
  · rw [lF]; omega
  · rw [lF]; omega
/-- the trees of a list of rows -/
theorem trs_app {n : Nat} {A B : List Row} (h1 : treesLe n A) (h2 : treesLe n B) : treesLe n (A ++ B) := fun r hr t e => by
  rcases List.mem_append.mp hr with q | q
  · exact h1 r q t e
  · exact h2 r q t e
theorem trs_clean {n : Nat} (m : Nat) : treesLe n (clean m) := fun r hr t e => by
  unfold clean at hr
  obtain ⟨k, _, rfl⟩ := List.mem_map.mp hr
  cases e
  exact Nat.zero_le _
theorem trs_none {n : Nat} {r : Row} (h : r.tree = none) : treesLe n [r] := fun s hs t e => by
  rw [List.mem_singleton.mp hs, h] at e; cases e
theorem trs_one {n w : Nat} (h : 1 ≤ n) : treesLe n [.set w oneT] := fun s hs t e => by
  rw [List.mem_singleton.mp hs] at e
  cases e
  exact h
theorem trs_yes {n w : Nat} (hp : treesLe n p) : treesLe n (yesR w p) := trs_app (trs_app (trs_none rfl) (trs_clean _)) hp
theorem trs_no {n w : Nat} (h : 1 ≤ n) (hp : treesLe n p) : treesLe n (noR w p) := trs_app (trs_yes hp) (trs_one h)
theorem trs_both {n : Nat} (hp : treesLe n p) (hq : treesLe n q) : treesLe n (bothR p q) := trs_app (trs_app (trs_app (trs_app (trs_app (trs_none rfl) hp) (trs_app (A := [.move (wmax [p, q] + 1) 0]) (B := [.move 0 (wmax [p, q])]) (trs_none rfl) (trs_none rfl))) (trs_clean _)) hq) (trs_none rfl)
theorem trs_choice {n : Nat} (h : 1 ≤ n) (hc : treesLe n c) (hp : treesLe n p) (hq : treesLe n q) : treesLe n (choiceR c p q) := trs_app (trs_app (trs_app (trs_app (trs_app (trs_none rfl) hc) (trs_none rfl)) (trs_no h hq)) (trs_none rfl)) (trs_yes hp)
theorem trs_loop {n : Nat} (h : 1 ≤ n) (hc : treesLe n c) (hp : treesLe n p) : treesLe n (loopR c p) := trs_app (trs_app (trs_app (trs_app (trs_app (trs_app (trs_app (trs_none rfl) (trs_clean _)) hc) (trs_none rfl)) (trs_app (A := [.move 0 _]) (B := [.set _ oneT]) (trs_none rfl) (trs_one h))) (trs_none rfl)) (trs_no h hp)) (trs_none rfl)
theorem len_both {v : Nat} (okq : OkPrg v q) (hv : 1 ≤ v) : (bothR p q).length ≤ p.length + q.length + v + 4 := by
  have := clean_len (wd q)
  have := wdLe okq hv
  unfold bothR
  simp only [List.length_append, List.length_cons, List.length_nil]
  omega
theorem len_choice {v : Nat} (okp : OkPrg v p) (okq : OkPrg v q) (hv : 1 ≤ v) : (choiceR c p q).length ≤ c.length + p.length + q.length + 2 * v + 6 := by
  have := clean_len (wd q)
  have := clean_len (wd p)
  have := wdLe okq hv
  have := wdLe okp hv
  unfold choiceR noR yesR
  simp only [List.length_append, List.length_cons, List.length_nil]
  omega
theorem len_loop {v : Nat} (okc : OkPrg v c) (okp : OkPrg v p) (hv : 1 ≤ v) : (loopR c p).length ≤ c.length + p.length + 2 * v + 8 := by
  have := clean_len (wd c)
  have := clean_len (wd p)
  have := wdLe okc hv
  have := wdLe okp hv
  unfold loopR loopF loopS noR yesR
  simp only [List.length_append, List.length_cons, List.length_nil]
  omega
end
end NV

set_option Elab.async false
set_option linter.all false
set_option maxRecDepth 100000
set_option maxHeartbeats 4000000
/-! # more built-in calls over plain data -/
namespace NV
open PySem PySem.Spec PyProof.Rows L2
open Evl (Ex)
def RC3 (K : PySem.W.Frag) (m : Md) (r : List V → Hp → VK → Prop) (f : D → D → D → W D) : Prop := ∀ (M : Addr → Prop) (H : Hp) (x y z : D) (v w u : V) (Q : VK) (e : Str → Prop), Mk M H → DxS K M H x v → DxS K M H y w → DxS K M H z u → (f x y z).run (Post K M H Q m) e → r [v, w, u] H Q
def fOp3 (f : D → D → D → W D) (fa fb fc : Env → W D) : Env → W D := fun ρ => (fa ρ).bind fun x => (fb ρ).bind fun y => (fc ρ).bind fun z => f x y z
def dMax3 : D → D → D → W D
  | .int i, .int j, .int k => .ok (.int (max (max i j) k))
  | _, _, _ => .stuck
def dMin2 : D → D → W D
  | .int i, .int j => .ok (.int (min i j))
  | _, _ => .stuck
section
variable {K : PySem.W.Frag} {mg : Str → Option Value} {Eo : XK} {own : List Nat} {m : Md}
theorem pd_cb3 {r : List V → Hp → VK → Prop} {f : D → D → D → W D} {ta tb tc : TE} {fa fb fc : Env → W D} (hr : RC3 K m r f) (ha : PD K mg Eo own .s ta fa) (hb : PD K mg Eo own .s tb fb) (hc : PD K mg Eo own .s tc fc) : PD K mg Eo own m (tCB r (tCons ta (tCons tb (tCons tc tNil)))) (fOp3 f fa fb fc) := fun M ρ σ H Q mk E h =>
  ha M ρ σ H _ mk E ((fa ρ).mono (fun x p v H1 e1 r1 => hb M ρ σ H1 _ (mk.ex e1) (E.ex e1) ((fb ρ).mono (fun y p w H2 e2 r2 => hc M ρ σ H2 _ (mk.ex (e1.trans e2)) (E.ex (e1.trans e2)) ((fc ρ).mono (fun z p u H3 e3 r3 =>
    hr M H3 x y z v w u Q _ (mk.ex ((e1.trans e2).trans e3)) (r1.ex (e2.trans e3)) (r2.ex e3) r3 ((f x y z).mono (fun d p => p.mono ((e1.trans e2).trans e3)) (fun _ z => z) p)) (fun n z => z.mono (e1.trans e2)) p)) (fun n z => z.mono e1) p)) (fun _ z => z) h)
theorem rc_max3 : RC3 K m (rNuC3 nuMax3) dMax3 := by
  intro M H x y z v w u Q e mk hx hy hz h
  cases x <;> cases y <;> cases z <;> first | (exact False.elim h) | skip
  rename_i i j k
  cases hx.val (fun _ q => nomatch q); cases hy.val (fun _ q => nomatch q); cases hz.val (fun _ q => nomatch q)
  refine ⟨.int i, .int j, .int k, .int (max (max i j) k), rfl, ?_, Post.int h⟩
  show (nuMax2 (.int i) (.int j)).bind (fun m => nuMax2 m (.int k)) = _
  have two : ∀ a b : Int, nuMax2 (.int a) (.int b) = some (.int (max a b)) := fun a b => by
    show some (if decide (a < b) = true then V.int b else V.int a) = _
    by_cases g : a < b
    · rw [if_pos (decide_eq_true g)]; congr 2; omega
    · rw [if_neg (by simp [g])]; congr 2; omega
  rw [two]
  exact two _ _
theorem rc_min2 : RC2 K m (fun xs H Q => ∃ i j, xs = [.int i, .int j] ∧ Q (.int (if j < i then j else i)) H) dMin2 := by
  intro M H x y v w Q e mk hx hy h
  cases x <;> cases y <;> first | (exact False.elim h) | skip
  rename_i i j
  cases hx.val (fun _ q => nomatch q); cases hy.val (fun _ q => nomatch q)
  refine ⟨_, _, rfl, ?_⟩
  have : (if j < i then j else i) = min i j := by split <;> omega
  rw [this]
  exact Post.int h
end
section
variable {qd : D → Prop} {e : Str → Prop} {ρ : Env} {fe1 fe2 fe3 : Env → W D}
theorem we_op3 {f : D → D → D → W D} (h : (fe1 ρ).rn (fun x => (fe2 ρ).rn (fun y => (fe3 ρ).rn (fun z => (f x y z).rn qd e) e) e) e) : (fOp3 f fe1 fe2 fe3 ρ).rn qd e := h
theorem wo_max3 {i j k : Int} (h : qd (.int (max (max i j) k))) : (dMax3 (.int i) (.int j) (.int k)).rn qd e := h
theorem wo_min2 {i j : Int} (h : qd (.int (min i j))) : (dMin2 (.int i) (.int j)).rn qd e := h
end
end NV

set_option Elab.async false
set_option linter.all false
set_option maxRecDepth 100000
set_option maxHeartbeats 4000000
/-! # which results are programs -/
namespace NV
open PySem PySem.Spec PyProof.Rows L2
open Evl (Ex)
def rowLen (r : Row) : Nat := match r.tree with
  | some t => t.enc.length
  | none => 0
def tlen (rows : List Row) : Nat := (rows.map rowLen).sum
theorem tlen_app (p r : List Row) : tlen (p ++ r) = tlen p + tlen r := by
  unfold tlen
  rw [List.map_append, List.sum_append]
theorem setLen_rowLen (r : Row) : setLen r.d = rowLen r := by
  cases r with
  | set a t =>
    show (if ("set" : Str) = "set" then (S t.enc).length else 0) = t.enc.length
    rw [if_pos rfl, S_len]
  | _ => rfl
theorem isProg_is {rows : List Row} (h : OkPrg 20 rows) (ht : ∀ r ∈ rows, ∀ t, r.tree = some t → t.enc.length ≤ 200000) : isProgD (prgD rows) = (decide (rows.length ≤ 600) && decide (tlen rows ≤ 200000)) := by
  have hl' : (rows.map Row.d).length = rows.length := List.length_map _
  have e1 : ((rows.map Row.d).map setLen).sum = tlen rows := by
    unfold tlen
    rw [List.map_map]
    congr 1
    exact List.map_congr_left fun r _ => setLen_rowLen r
  show (decide ((rows.map Row.d).length ≤ 600) && (rowsD ((rows.map Row.d).length : Nat) 0 (rows.map Row.d) && decide (((rows.map Row.d).map setLen).sum ≤ 200000))) = _
  rw [e1, hl', rowsD_ok (fun i r e => by rw [Nat.zero_add]; exact h i r e) ht]
  rfl
/-- what the k-th builder makes of three programs, and which of them it uses -/
def dueR (k : Nat) (c p r : List Row) : List Row := if k = 0 then chainR 0 [c, p, r] else if k = 1 then bothR c p else if k = 2 then choiceR c p r else loopR c p
def usedR (k : Nat) (c p r : List Row) : List (List Row) := if k = 1 ∨ k = 3 then [c, p] else [c, p, r]
def Mad (p : List Row) : Prop := OkPrg 20 p ∧ p.length ≤ 320 ∧ treesLe 50001 p
section
variable {k : Nat} {c p r : List Row}
theorem wmax_mem {ps : List (List Row)} {p : List Row} (h : p ∈ ps) : wd p ≤ wmax ps := by
  have key : ∀ (l : List Nat) (m : Nat), m ≤ l.foldl max m ∧ ∀ x ∈ l, x ≤ l.foldl max m := by
    intro l
    induction l with
    | nil => exact fun m => ⟨Nat.le_refl _, fun x h => nomatch h⟩
    | cons y l ih =>
      intro m
      obtain ⟨h1, h2⟩ := ih (max m y)
      refine ⟨by show m ≤ l.foldl max (max m y); omega, fun x hx => ?_⟩
      show x ≤ l.foldl max (max m y)
      rcases List.mem_cons.mp hx with q | q
      · omega
      · exact h2 x q
  exact (key (ps.map wd) 1).2 _ (List.mem_map.mpr ⟨p, h, rfl⟩)
theorem okChain : ∀ {ps : List (List Row)} {j : Nat}, (∀ p ∈ ps, OkPrg 20 p) → OkPrg 20 (chainR j ps)
  | [], _, _ => fun i r hr => by simp [chainR] at hr
  | p :: ps, j, h => by
    have hp := h p List.mem_cons_self
    refine okPrg_app ?_ (okChain fun q hq => h q (List.mem_cons_of_mem _ hq))
    unfold link
    split
    · exact hp
    · exact okPrg_app (okPrg_clean _ (wdLe hp (by decide))) hp
theorem due_okp (hk : k < 4) (hc : Mad c) (hp : Mad p) (hr : Mad r) (hw : wmax (usedR k c p r) ≤ 16) : OkPrg 20 (dueR k c p r) := by
  rcases (show k = 0 ∨ k = 1 ∨ k = 2 ∨ k = 3 by omega) with rfl | rfl | rfl | rfl
  · exact okChain fun q hq => by
      simp at hq
      rcases hq with rfl | rfl | rfl
      · exact hc.1
      · exact hp.1
      · exact hr.1
  · exact okBoth hc.1 hp.1 hw
  · exact okChoice hc.1 hp.1 hr.1 hw
  · exact okLoop hc.1 hp.1 hw
theorem due_trs (hk : k < 4) (hc : Mad c) (hp : Mad p) (hr : Mad r) : treesLe 50001 (dueR k c p r) := by
  rcases (show k = 0 ∨ k = 1 ∨ k = 2 ∨ k = 3 by omega) with rfl | rfl | rfl | rfl
  · exact trees_chain _ _ fun q hq => by
      simp at hq
      rcases hq with rfl | rfl | rfl
      · exact hc.2.2
      · exact hp.2.2
      · exact hr.2.2
  · exact trs_both hc.2.2 hp.2.2
  · exact trs_choice (by decide) hc.2.2 hp.2.2 hr.2.2
  · exact trs_loop (by decide) hc.2.2 hp.2.2
theorem due_enc (hk : k < 4) (hc : Mad c) (hp : Mad p) (hr : Mad r) {n : Nat} (hn : 100003 ≤ n) : ∀ x ∈ dueR k c p r, ∀ t, x.tree = some t → t.enc.length ≤ n := fun x hx t e => by
  have := due_trs hk hc hp hr x hx t e
  have := t.enc_len
  omega
end
theorem intsD_sum {l : List Int} : intsD (l.map D.int) = some l := intsD_map l
end NV

set_option Elab.async false
set_option linter.all false
set_option maxRecDepth 100000
set_option maxHeartbeats 4000000
/-! # comprehensions whose items may raise -/
namespace NV
open PySem PySem.Spec PyProof.Rows L2
/-- what is wanted behind a comprehension's block; an exception goes on from the frame at fr -/
def CPost (M : Model) (A : Around) (E : Value → Shared → Prop) (use : Option (Value → Sem Unit)) (Q : Value → Shared → Prop) (fr : Option Addr) (acc : Value) (C : Addr) (r : Result) (t : Shared) : Prop := match r with
  | .ok _ => compPost M A E use Q acc C (.ok .next) t
  | .error x => ∃ m, t.heap.Ns C m ∧ ∀ g, Heap.SameBut C t.heap g → ∀ ce : PySem.Env, ce.frame = fr → wpAny M A (passOn "comprehension.variables-let-go" x ce : Sem Value) (fun _ _ => False) E { t with heap := g }
section
variable {M : Model} {A : Around} {E : Value → Shared → Prop} {s : Shared} {env : PySem.Env}
theorem comp_free {e : Expr} {scope : Scope} {pos : Pos} {newAcc first : Sem Value} {g : Comprehension} {gs : List Comprehension} {cl : List (Str × Addr)} {use : Option (Value → Sem Unit)} {Q : Value → Shared → Prop}
    (hcl : clausesOf e = g :: gs) (hs : ∀ x, foldedSetIterable g.iter env x = pure x) (hclos : closureFor scope env = pure cl) (hkind : scope.kind = .function) (hnames : ∀ x ∈ scope.names, x.2 = .local → scope.names.lookup x.1 = some .local)
    (h : wpAny M A first (fun x t1 => wpAny M A (pyIter x) (fun it t2 => wpAny M A newAcc (fun acc t3 => wpAny M A (newFunctionEnv scope env.globals cl [] env.qual none .none (some env)) (fun ce t4 =>
        ce.frame = env.frame ∧ codeAny M A (.compStart e 0 it acc { ce with scope := relabel scope env }) (CPost M A E use Q env.frame acc ce.locals) t4) E t3) E t2) E t1) E s) :
    wpAny M A (comprehension e scope env pos newAcc false first use) Q E s := by
  unfold comprehension
  rw [hclos, hcl]
  refine wpAny_bind (wpAny_mono h (fun x t1 k1 => wpAny_bind (wpAny_standAt (wpAny_bind (wpAny_of_eq (hs x) (wpAny_bind (wpAny_holding (wpAny_mono k1 (fun it t2 k2 =>
    wpAny_standIf (wpAny_bind (wpAny_mono k2 (fun acc t3 k3 => wpAny_bind (wpAny_pure (wpAny_bind (wpAny_mono k3 (fun ce t4 k4 => ?_) fun _ _ z => z)))) fun _ _ z => z))) fun _ _ z => z))))))) fun _ _ z => z)
  obtain ⟨kf, k4⟩ := k4
  dsimp only
  have hv : ∀ x ∈ (scope.names.filter fun x => (x.2 == .local || x.2 == .cell) && x.1 != (".0" : Str)).reverse, x.2 = .local → PySem.Env.kindOf { ce with scope := relabel scope env } x.1 = some .local := fun x hx hl =>
    lookup_relabel_local (hnames x (List.mem_filter.mp (List.mem_reverse.mp hx)).1 hl)
  have hw : ∀ x ∈ (scope.names.filter fun x => (x.2 == .local || x.2 == .cell) && x.1 != (".0" : Str)).reverse.drop 1 ++ (scope.names.filter fun x => (x.2 == .local || x.2 == .cell) && x.1 != (".0" : Str)).reverse.take 1, x.2 = .local → PySem.Env.kindOf { ce with scope := relabel scope env } x.1 = some .local := fun x hx hl => by
    rcases List.mem_append.mp hx with z | z
    · exact hv x (List.mem_of_mem_drop z) hl
    · exact hv x (List.mem_of_mem_take z) hl
  refine wpAny_holding (wpAny_bind (wpAny_attempt (wpAny_holding (wpAny_run (codeAny_mono k4 fun r t hr => ?_)))))
  cases r with
  | ok f =>
    cases use with
    | none =>
      obtain ⟨m, hn, hr⟩ := hr
      exact wpAny_bind (wpAny_holding (wpAny_comp_letGo (cenv := { ce with scope := relabel scope env }) hkind _ t m hv hn fun g' m' _ q => wpAny_pure (hr g' q)))
    | some u =>
      refine wpAny_bind (wpAny_rule (wpAny_bind (wpAny_holding (wpAny_mono hr (fun _ t' k5 => ?_) fun _ _ z => z))))
      obtain ⟨m, hn, k5⟩ := k5
      exact wpAny_bind (wpAny_comp_letGo (cenv := { ce with scope := relabel scope env }) hkind _ t' m hw hn fun g' m' _ q => wpAny_pure (k5 g' q))
  | error x =>
    obtain ⟨m, hn, hr⟩ := hr
    exact wpAny_bind (wpAny_holding (wpAny_comp_letGo (cenv := { ce with scope := relabel scope env }) hkind _ t m hv hn fun g' m' _ q => wpAny_mono (hr g' q _ kf) (fun _ _ f => f.elim) fun _ _ y => y))
end
theorem frames_same {h g B C : Heap} : ∀ {l : List PySem.Env}, h.FunFrames B l → (∀ L ∈ frs l, C.get? L = none ∧ g.get? L = h.get? L) → g.FunFrames C l
  | [], _, _ => trivial
  | env :: l, k, hn => by
    obtain ⟨k1, ⟨L, o, hf, _, ho, hd⟩, kr⟩ := k
    obtain ⟨n1, n2⟩ := hn L (List.mem_filterMap.mpr ⟨env, List.mem_cons_self, hf⟩)
    refine ⟨k1, ⟨L, o, hf, n1, n2.trans ho, hd⟩, frames_same kr fun b hb => ?_⟩
    obtain ⟨e, he, q⟩ := List.mem_filterMap.mp hb
    exact hn b (List.mem_filterMap.mpr ⟨e, List.mem_cons_of_mem _ he, q⟩)
theorem note_frame {x : Value} {c d : PySem.Env} (h : c.frame = d.frame) : noteFrame x c = noteFrame x d := by
  unfold noteFrame PySem.frameOf
  rw [h]
/-- the context of a block whose calls may let E out -/
abbrev CxX (X : Cx) (s : Shared) (H : Hp) (scope : Scope) (ce : PySem.Env) (fp : List Addr) (E : XK) : Cx := (X.blk s H scope ce fp).wish fun u t => ∃ pn σ H9 s9, Inv (X.blk s H scope ce fp) pn σ H9 s9 ∧ CX X.prog X.w X.stack H9 s9 E u t
theorem passB {X : Cx} {s : Shared} {H : Hp} {scope : Scope} {ce : PySem.Env} {fp : List Addr} {E : XK} : ∀ (pins : List (Addr × Obj)) (σ : L2.St) (H9 : Hp) (s9 : Shared) (e : Value) (t : Shared), Inv (CxX X s H scope ce fp E) pins σ H9 s9 → CX (CxX X s H scope ce fp E).prog (CxX X s H scope ce fp E).w (CxX X s H scope ce fp E).stack H9 s9 E e t → (CxX X s H scope ce fp E).xe e t :=
  fun pins σ H9 s9 e t I c => ⟨pins, σ, H9, s9, I.unwish, c⟩
section
variable {X : Cx} {pins : List (Addr × Obj)} {σ : L2.St} {H3 : Hp} {s3 : Shared} {scope : Scope} {ce : PySem.Env} {fp : List Addr} {E : XK} {W : WX}
/-- what a call of the block lets out leaves the comprehension -/
theorem out_of_block (hst : X.stack = X.env :: X.outer) (hf : X.env.frame = some X.env.locals) (tk : Takes X W) (hW : ∀ cls d σ H, E cls d H → W cls d σ H) (I3 : Inv X pins σ H3 s3) (f3 : ∀ b ∈ fp, FpOk X pins H3 b ∧ b < s3.heap.objs.size)
    (hC : ce.locals = s3.heap.objs.size) (hcf : ce.frame = X.env.frame) {u : Value} {t : Shared} (q : (CxX X s3 H3 scope ce fp E).xe u t) {E1 : Value → Shared → Prop} {use : Option (Value → Sem Unit)} {Qf : Value → Shared → Prop} {acc : Value} :
    wpAny (model X.prog X.w) X.A (noteFrame u ce) (fun _ t1 => CPost (model X.prog X.w) X.A X.xe use Qf X.env.frame acc s3.heap.objs.size (.error u) t1) E1 t := by
  obtain ⟨pn, σ9, H9, s9, I9, a, B, H', cls, d, rfl, fl, hok, ub, na, os, ag, hE⟩ := q
  obtain ⟨m9, hn9, _⟩ := I9.loc
  have hn9 : s9.heap.Ns ce.locals m9 := hn9
  have n9 : H9 ce.locals = none := I9.free
  have b9 : Un (frs X.stack) fp H3 H9 s3.heap s9.heap := I9.base
  rw [hC] at hn9 n9
  generalize hCC : s3.heap.objs.size = C at *
  obtain ⟨oC, es, ep, eC, dC, kC⟩ := hn9
  have fpC : FpOk X pins H3 C := I3.fpOk (Nat.le_of_eq hCC) (I3.hok.fresh (Nat.le_of_eq hCC))
  have nfr : C ∉ frs X.stack := fun z => by
    rcases List.mem_cons.mp (I3.stkSub C z) with z | z
    · exact fpC.2.1 z
    · exact fpC.2.2.1 z
  have BC : B.get? C = some oC := ub.keep C oC eC n9 nfr
  have st : B.StaysIn t.heap := fl.1
  have aC : a ≠ C := fun z => by have := fl.2.1; rw [z, BC] at this; cases this
  have nC' : H' C = none := ub.free C oC eC n9
  obtain ⟨B', g1, g2⟩ := restrict B fun b => !decide (b = C)
  have gB : ∀ b o, b ≠ C → B.get? b = some o → B'.get? b = some o := fun b o n e => (g1 b (by simp [n])).trans e
  have Bg : ∀ b o, B'.get? b = some o → b ≠ C ∧ B.get? b = some o := fun b o e => by
    by_cases n : b = C
    · rw [g2 b (by simp [n])] at e; cases e
    · exact ⟨n, (g1 b (by simp [n])).symm.trans e⟩
  obtain ⟨G, k1, k2⟩ := restrict t.heap fun b => (B'.get? b).isSome || decide (b ∈ frs X.stack)
  have kG : ∀ b o, B'.get? b = some o → G.get? b = some o := fun b o e => (k1 b (by simp [e])).trans (st b o (Bg b o e).2)
  have kF : ∀ b, b ∈ frs X.stack → G.get? b = t.heap.get? b := fun b hb => k1 b (by simp [hb])
  have Gk : ∀ b o, G.get? b = some o → t.heap.get? b = some o ∧ ((∃ o', B'.get? b = some o') ∨ b ∈ frs X.stack) := fun b o e => by
    cases z : ((B'.get? b).isSome || decide (b ∈ frs X.stack)) with
    | false => rw [k2 b z] at e; cases e
    | true =>
      refine ⟨(k1 b z).symm.trans e, ?_⟩
      rw [Bool.or_eq_true] at z
      exact z.imp Option.isSome_iff_exists.mp of_decide_eq_true
  have old : ∀ b o, s3.heap.get? b = some o → b ≠ C := fun b o e z => by have := Heap.lt_size e; rw [z, ← hCC] at this; exact Nat.lt_irrefl _ this
  have J : L2.Inv X pins σ H' { t with heap := G, os := s3.os } := by
    refine I3.call' (ch := fp) rfl ⟨fun b o e n hb hx => ?_, fun b o e n hb hx => ?_, fun b o e n hx => ?_, fun b o e hx => ?_, fun b xs e => ub.tups b xs (b9.tups b xs e), fun b o u e => ub.frzs b o u (b9.frzs b o u e), fun b ps e => ?_⟩ (fun b o e => ?_) ag fun b hb => ⟨(f3 b hb).1.2.2.2.1, (f3 b hb).1.2.1, (f3 b hb).1.2.2.2.2.1, (f3 b hb).1.2.2.2.2.2⟩
    · exact kG b o (gB b o (old b o e) (ub.keep b o (b9.keep b o e n hb hx) (b9.free b o e n hx) hb))
    · obtain ⟨sl, e1⟩ := b9.slot b o e n hb hx
      obtain ⟨sl2, e2⟩ := ub.slot b _ e1 hb
      exact ⟨sl2, (kF b hb).trans e2⟩
    · obtain ⟨o', e1⟩ := b9.there b o e hx
      exact ub.free b o' e1 (b9.free b o e n hx)
    · obtain ⟨o', e1⟩ := b9.there b o e hx
      by_cases hb : b ∈ frs X.stack
      · obtain ⟨sl, e2⟩ := ub.slot b o' e1 hb
        exact ⟨_, (kF b hb).trans e2⟩
      · obtain ⟨o2, e2⟩ := ub.there b o' e1 hb
        exact ⟨o2, kG b o2 (gB b o2 (old b o e) e2)⟩
    · obtain ⟨m1, e1⟩ := b9.tbls b ps e
      obtain ⟨m2, e2⟩ := ub.tbls b _ e1
      exact ⟨m1 ++ m2, by rw [e2, Array.append_assoc]⟩
    · refine (hok b o e).stay (fun c v hc r => kG c v (gB c v (fun z => ?_) r)) (fun _ r => r) fun _ _ r => r
      subst z
      rcases hc with hc | hc
      · rw [← hc, nC'] at e; cases e
      · rw [nC'] at hc; cases hc
  have hfr : X.A.frames = some (X.env :: X.outer) := by rw [I3.ok.frames, hst]
  rw [note_frame hcf]
  refine HandSPX.looks_onZ Zc.steady hfr hf (by rw [← hst]; exact fl) fun h1 hh up1 => ?_
  obtain ⟨x1, x2, x3, oe, vs, T, oT, ts, he, hz, hd, hv1, hnT, hTe, hT, hdT, hv3⟩ := hh
  refine ⟨m9, ⟨oC, es, ep, x1 C oC BC, dC, kC⟩, fun h2 sb c' hc' => ?_⟩
  have TC : T ≠ C := fun z => by rw [z, BC] at hnT; cases hnT
  have nfr' : ∀ L, L ∈ frs (X.env :: X.outer) → L ≠ C := fun L hL z => by rw [← hst, z] at hL; exact nfr hL
  have n' : ∀ {b}, B.get? b = none → B'.get? b = none := fun {b} n => by
    cases z : B'.get? b with
    | none => rfl
    | some o => rw [(Bg b o z).2] at n; cases n
  have hh2 : HandSPX.HeldZ B' (X.env :: X.outer) a (Zc cls d) X.env.locals h2 := by
    refine ⟨fun b o e => (sb.2 b (Bg b o e).1).trans (x1 b o (Bg b o e).2), n' x2, frames_same x3 fun L hL => ⟨n' ?_, sb.2 L (nfr' L hL)⟩, oe, vs, T, oT, ts, (sb.2 a aC).trans he, hz, hd, hv1, n' hnT, hTe, (sb.2 T TC).trans hT, hdT, hv3⟩
    exact (x3.mem hL).1
  unfold PySem.passOn
  refine wpAny_bind (wpAny_field (show ({ t with heap := h2 } : Shared).heap.get? a = some oe from (sb.2 a aC).trans he) hd hv1 ?_)
  rw [if_neg (show ¬ ((Value.ref T == Value.none) = true) from by simp)]
  have fin : wpAny (model X.prog X.w) X.A (setFlight (.ref a) c'.frame) (fun _ t4 => wpAny (model X.prog X.w) X.A (throw (.ref a) : Sem Value) (fun _ _ => False) X.xe t4) X.xe { t with heap := h2 } := by
    rw [hc', hf]
    refine HandSPX.setFlight_onZ hh2 fun h4 hh4 up4 => wpAny_throw (tk _ _ ?_)
    refine ⟨a, B', _, pins, σ, H', cls, d, rfl, J, fun b o e hb => ?_, fun b o e hnf => ?_, .inr (.inr (by rw [hst]; exact hh4)), na, (os.trans I9.os), ag, hW _ _ _ _ hE⟩
    · obtain ⟨e1, e2 | e2⟩ := Gk b o e
      · obtain ⟨o', e2⟩ := e2
        have := st b o' (Bg b o' e2).2
        rw [e1] at this; cases this
        exact e2
      · exact absurd e2 hb
    · obtain ⟨e1, e2⟩ := Gk b o e
      have nb : b ≠ C := by
        rcases e2 with ⟨o', e2⟩ | e2
        · exact (Bg b o' e2).1
        · exact fun z => nfr (z ▸ e2)
      obtain ⟨sl1, y1⟩ := up1 b o e1 hnf
      obtain ⟨sl2, y2⟩ := up4 b _ ((sb.2 b nb).trans y1) hnf
      exact ⟨sl2, y2⟩
  first
    | exact wpAny_bind (wpAny_pure (wpAny_bind fin))
    | exact wpAny_bind fin
end
section
variable {X : Cx} {pins : List (Addr × Obj)} {σ : L2.St} {H : Hp} {s : Shared}
theorem thnX {α : Type} {t : Sem α} {Q Q' : α → Shared → Prop} {M : Model} {A : Around} {E E' : Value → Shared → Prop} {s : Shared} (h : wpAny M A t Q E s) (hQ : ∀ a s, Q a s → Q' a s) (hE : ∀ a s, E a s → E' a s) : wpAny M A t Q' E' s := wpAny_mono h hQ hE
theorem lc_coreX {Q : VK} {elt tg iter : Expr} {ifs : List Expr} {scope : Scope} {own : List (Str × Nat)} {pos pos' : Pos} {wi : TI} {g : TG} {tt : TT} {te : TE} {use : Option (Value → Sem Unit)} {Qf : Value → Shared → Prop} {W : WX} {E : XK}
    (hst : X.stack = X.env :: X.outer) (hf : X.env.frame = some X.env.locals) (tk : Takes X W) (hW : ∀ cls d σ H, E cls d H → W cls d σ H)
    (hc : X.calm = true) (hN : X.N.Nodup) (I : L2.Inv X pins σ H s) (hi : PI X tg iter wi) (ok : BlkOk X.N X.env.scope scope own)
    (hg : ∀ (s : Shared) (H : Hp) (C : Addr) (cl : List (Str × Addr)) (fp : List Addr), PG (CxX X s H scope (compEnvC scope cl C X.env) fp E) tg g)
    (ht : ∀ (s : Shared) (H : Hp) (C : Addr) (cl : List (Str × Addr)) (fp : List Addr), PTs (CxX X s H scope (compEnvC scope cl C X.env) fp E) ifs tt)
    (he : ∀ (s : Shared) (H : Hp) (C : Addr) (cl : List (Str × Addr)) (fp : List Addr), PE (CxX X s H scope (compEnvC scope cl C X.env) fp E) elt te)
    (hs : ∀ x, foldedSetIterable iter X.env x = pure x) (h : tLc wi g tt te (own.map (·.2)) σ H Q)
    (hRR : ∀ D C s' m H', L2.Inv X pins σ H' s' → Q (.ref D) H' → s'.heap.Ns C m → FpOk X pins H' C → compPost (model X.prog X.w) X.A X.xe use Qf (.ref D) C (.ok .next) s') :
    wpAny (model X.prog X.w) X.A (comprehension (.ListComp elt [⟨tg, iter, ifs, 0⟩] scope pos) scope X.env pos' (newList []) false (eval iter X.env) use) Qf X.xe s := by
  have hfree : ∀ y ∈ scope.names, y.2 = .free → ∃ c, X.env.cells.lookup y.1 = some c := fun y hy z => (ok.free y hy z).elim (fun k => I.ok.has _ (.inl k)) (fun k => I.ok.has _ (.inr k))
  refine comp_free (use := use) rfl hs (closure_ok hfree) ok.kind (fun y hy z => by rw [ok.uniq y hy, z]) (thn (hi.run pins s σ H _ I h) fun xv s1 hx => thn hx fun itv s2 h2 => ?_)
  obtain ⟨it, fp, tn, J, H2, rfl, I2, T, st2, f2, q⟩ := h2
  refine wpAny_newObj_type (newEnv_comp ⟨rfl, ?_⟩) (by show 0 ≤ sizeLine; decide)
  generalize hD : s2.heap.objs.size = D
  have hDn : H2 D = none := I2.hok.fresh (Nat.le_of_eq hD)
  obtain ⟨V0, ⟨m0, w0⟩, turn⟩ := q D hDn
  generalize es3 : ({ s2 with heap := s2.heap.push { cls := .type "list", data := .seq ([] : List Value).toArray } } : Shared) = s3
  have I3 : L2.Inv X pins σ (upd H2 D (.lst [])) s3 := by
    subst es3
    refine I2.laid (t' := s2.toks) (fun b o z => Heap.get?_push_of_some _ z) (Nat.le_of_eq hD) ⟨Nat.zero_le _, [], 0, .nil, ?_⟩
    subst hD
    exact Heap.get?_push_size _ rfl
  have h3 : s3.heap = s2.heap.push { cls := .type "list", data := .seq ([] : List Value).toArray } := by subst es3; rfl
  have f3 : ∀ b ∈ fp, FpOk X pins (upd H2 D (.lst [])) b ∧ b < s3.heap.objs.size := fun b hb => by
    obtain ⟨o, z, _⟩ := T.obj _ _ st2 b hb
    have hlt := Heap.lt_size z
    refine ⟨⟨?_, (f2 b hb).2⟩, by rw [h3, Heap.size_push]; exact Nat.lt_succ_of_lt hlt⟩
    rw [upd_ne (by subst hD; exact Nat.ne_of_lt hlt)]
    exact (f2 b hb).1
  have st3 : tn 0 s3.heap := T.keep _ _ _ st2 fun b _ o z => by rw [h3]; exact Heap.get?_push_of_some _ z
  have I4 := (block_start I3 ok hN f3).wish fun u t => ∃ pn σ H9 s9, L2.Inv (X.blk s3 (upd H2 D (.lst [])) scope (compEnvC scope (cellsFrom (s3.heap.objs.size + 1) scope.names (cloFrom X.env.cells scope.names [])) s3.heap.objs.size X.env) fp) pn σ H9 s9 ∧ CX X.prog X.w X.stack H9 s9 E u t
  have pg := hg s3 (upd H2 D (.lst [])) s3.heap.objs.size (cellsFrom (s3.heap.objs.size + 1) scope.names (cloFrom X.env.cells scope.names [])) fp
  have pt := ht s3 (upd H2 D (.lst [])) s3.heap.objs.size (cellsFrom (s3.heap.objs.size + 1) scope.names (cloFrom X.env.cells scope.names [])) fp
  have pe := he s3 (upd H2 D (.lst [])) s3.heap.objs.size (cellsFrom (s3.heap.objs.size + 1) scope.names (cloFrom X.env.cells scope.names [])) fp
  show codeAny _ _ (.compStart (.ListComp elt [⟨tg, iter, ifs, 0⟩] scope pos) 0 (.ref it) (.ref D) (compEnvC scope (cellsFrom (s3.heap.objs.size + 1) scope.names (cloFrom X.env.cells scope.names [])) s3.heap.objs.size X.env)) (CPost (model X.prog X.w) X.A X.xe use Qf X.env.frame (.ref D) s3.heap.objs.size) { s3 with heap := pushCells (s3.heap.push { cls := .type "dict", data := .dict #[] }) scope.names }
  have nfp : ∀ b ∈ fp, (upd H2 D (.lst [])) b = none := fun b hb => (f3 b hb).1.1
  generalize ece : compEnvC scope (cellsFrom (s3.heap.objs.size + 1) scope.names (cloFrom X.env.cells scope.names [])) s3.heap.objs.size X.env = ce at I4 pg pt pe ⊢
  have cL : ce.locals = s3.heap.objs.size := by subst ece; rfl
  have cF : ce.frame = X.env.frame := by subst ece; rfl
  generalize upd H2 D (.lst []) = H3 at I3 I4 pg pt pe w0 nfp f3
  generalize es4 : ({ s3 with heap := pushCells (s3.heap.push { cls := .type "dict", data := .dict #[] }) scope.names } : Shared) = s4 at I4 ⊢
  have st4 : tn 0 s4.heap := T.keep _ _ _ st3 fun b _ o z => by subst es4; exact pushCells_keeps _ _ _ _ (Heap.get?_push_of_some _ z)
  have out : ∀ {u : Value} {t : Shared}, (CxX X s3 H3 scope ce fp E).xe u t → notedBy (model X.prog X.w) X.A ce (fun e s' => CPost (model X.prog X.w) X.A X.xe use Qf X.env.frame (.ref D) s3.heap.objs.size (.error e) s') u t := fun z => out_of_block hst hf tk hW I3 f3 cL cF z
  have stat : ∀ {σ' : L2.St} {H' : Hp} {s' : Shared}, L2.Inv (CxX X s3 H3 scope ce fp E) [] σ' H' s' → (∀ b ∈ fp, H' b = none) → ∀ b ∈ fp, FpOk (CxX X s3 H3 scope ce fp E) [] H' b := fun I' hn b hb =>
    ⟨hn b hb, (I'.ok.exf b hb).1, I'.ok.exfs b hb, .inl hb, fun x c z => (I'.ok.exf b hb).2 x c z, fun p hp => absurd (show p ∈ ([] : List (Addr × Obj)) ++ [] from hp) (by simp)⟩
  have loop : codeAny (model X.prog X.w) X.A (.compLoop (.ListComp elt [⟨tg, iter, ifs, 0⟩] scope pos) 0 (.ref it) (.ref D) ce) (CPost (model X.prog X.w) X.A X.xe use Qf X.env.frame (.ref D) s3.heap.objs.size) s4 := by
    refine compLoop_any (fun n s' => ∃ i H', L2.Inv (CxX X s3 H3 scope ce fp E) [] (wipe σ (own.map (·.2))) H' s' ∧ tn i s'.heap ∧ (∀ b ∈ fp, H' b = none) ∧ V0 i n H') ?_ m0 ⟨0, H3, I4, st4, nfp, w0⟩
    rintro n s5 ⟨i, H5, I5, st5, n5, w5⟩
    rcases turn i n H5 w5 with ⟨stop, qq⟩ | ⟨go, Nx, hNx, step⟩
    · refine thnF (T.done (CxX X s3 H3 scope ce fp E) rfl rfl rfl hc i [] s5 _ H5 (fun _ _ => False) I5 (stat I5 n5) st5 stop) fun r s6 ⟨hr, J6⟩ => ?_
      subst hr
      have I6 := J6.unwish
      have I7 : L2.Inv X pins σ H5 s6 := I3.call' (ch := fp) I6.os I6.base I6.hok I6.bare fun b hb => ⟨(f3 b hb).1.2.2.2.1, (f3 b hb).1.2.1, (f3 b hb).1.2.2.2.2.1, (f3 b hb).1.2.2.2.2.2⟩
      have nC : H5 ce.locals = none := I6.free
      rw [cL] at nC
      obtain ⟨m, hn, _⟩ := I6.loc
      have hn : s6.heap.Ns ce.locals m := hn
      rw [cL] at hn
      exact hRR D s3.heap.objs.size s6 m H5 I7 qq hn (I3.fpOk (Nat.le_refl _) nC)
    · refine thnF (T.item (CxX X s3 H3 scope ce fp E) rfl rfl rfl hc i [] s5 _ H5 (fun _ _ => False) I5 (stat I5 n5) st5 go) fun r s6 ⟨u, hr, h6⟩ => ?_
      subst hr
      refine thnF h6 fun _ s7 ⟨x, H7, I7, r7, y7, st7, n7⟩ => ?_
      have I7' := I7.pinned (stat I7 n7) (T.obj _ _ st7)
      refine thnX (pg.run _ s7 _ H7 x u _ I7' r7 (step x H7 y7)) (fun _ s8 ⟨σ8, H8, I8, hw8, q8⟩ => ?_) fun _ _ z => out z
      refine thnX (pt.run _ s8 σ8 H8 _ I8 q8) (fun b s9 ⟨H9, I9, q9⟩ => ?_) fun _ _ z => out z
      have fin : ∀ {s' : Shared} {H' : Hp}, L2.Inv (CxX X s3 H3 scope ce fp E) ([] ++ pinsAt fp s7.heap) σ8 H' s' → Nx H' → ∃ m, m < n ∧ ∃ i H', L2.Inv (CxX X s3 H3 scope ce fp E) [] (wipe σ (own.map (·.2))) H' s' ∧ tn i s'.heap ∧ (∀ b ∈ fp, H' b = none) ∧ V0 i m H' := fun {s' H'} I' nx => by
        obtain ⟨m', hm, w'⟩ := hNx H' nx
        have pin' : ∀ b ∈ fp, ∀ o, s7.heap.get? b = some o → s'.heap.get? b = some o ∧ H' b = none := fun b hb o z => by
          have y := I'.pin (b, o) (List.mem_append_right _ (List.mem_append_right _ (mem_pinsAt hb z)))
          exact ⟨y.1, y.2.1⟩
        refine ⟨m', hm, i + 1, H', (I'.unpinned (pins := [])).weak (by rw [← hw8, wipe_length]) (fun j v z => ?_), T.keep _ _ _ st7 fun b hb o z => (pin' b hb o z).1, fun b hb => ?_, w'⟩
        · rw [← hw8] at z
          exact (wipe_some z).1
        · obtain ⟨o, z, _⟩ := T.obj _ _ st7 b hb
          exact (pin' b hb o z).2
      cases b with
      | false =>
        simp only [Bool.false_eq_true, if_false] at q9 ⊢
        exact fin I9 q9
      | true =>
        simp only [if_true] at q9 ⊢
        refine thnX (pe.run _ s9 σ8 H9 _ I9 q9) (fun z s10 ⟨yv, H10, I10, r10, acc, hD10, hz10, nx⟩ => ?_) fun _ _ z => out z
        exact app_ok (X := CxX X s3 H3 scope ce fp E) I10 hD10 hz10 r10 fun s11 I11 => fin I11 nx
  exact codeAny_compStart_list loop (T.self X.A 0 _ _ _ st4 loop)
end
section
variable {X : Cx} {W : WX} {E : XK} {elt tg iter : Expr} {ifs : List Expr} {scope : Scope} {own : List (Str × Nat)} {pos spos : Pos} {wi : TI} {g : TG} {tt : TT} {te : TE}
theorem pe_lcX (E : XK) (hst : X.stack = X.env :: X.outer) (hf : X.env.frame = some X.env.locals) (tk : Takes X W) (hW : ∀ cls d σ H, E cls d H → W cls d σ H) (hc : X.calm = true) (hN : X.N.Nodup) (hi : PI X tg iter wi) (ok : BlkOk X.N X.env.scope scope own)
    (hg : ∀ (s : Shared) (H : Hp) (C : Addr) (cl : List (Str × Addr)) (fp : List Addr), PG (CxX X s H scope (compEnvC scope cl C X.env) fp E) tg g)
    (ht : ∀ (s : Shared) (H : Hp) (C : Addr) (cl : List (Str × Addr)) (fp : List Addr), PTs (CxX X s H scope (compEnvC scope cl C X.env) fp E) ifs tt)
    (he : ∀ (s : Shared) (H : Hp) (C : Addr) (cl : List (Str × Addr)) (fp : List Addr), PE (CxX X s H scope (compEnvC scope cl C X.env) fp E) elt te) (hs : ∀ x, foldedSetIterable iter X.env x = pure x := by intro _; rfl) :
    PE X (.ListComp elt [⟨tg, iter, ifs, 0⟩] scope pos) (tLc wi g tt te (own.map (·.2))) := by
  refine ⟨fun pins s σ H Q I h => ?_⟩
  rw [eval_ListComp]
  refine lc_coreX hst hf tk hW hc hN I hi ok hg ht he hs h fun D C t m H' I' q hn f => ⟨m, hn, fun g' sb => ?_⟩
  exact ⟨.ref D, H', I'.turned (t' := t.toks) (fun b o hb z => (sb.2 b hb).trans z) f.1 f.2.1 f.2.2.2.1 f.2.2.2.2.1 f.2.2.2.2.2, rfl, q⟩
theorem ps_setLcX (E : XK) {i : Nat} {y : Str} {py : Pos} (hst : X.stack = X.env :: X.outer) (hf : X.env.frame = some X.env.locals) (tk : Takes X W) (hW : ∀ cls d σ H, E cls d H → W cls d σ H) (hc : X.calm = true) (hN : X.N.Nodup)
    (hy : X.N[i]? = some y) (hyl : X.env.scope.names.lookup y = some .local) (hsw : swapsWith (.ListComp elt [⟨tg, iter, ifs, 0⟩] scope pos) (some (.Name y py)) spos.line X.env = pure true) (hi : PI X tg iter wi) (ok : BlkOk X.N X.env.scope scope own)
    (hg : ∀ (s : Shared) (H : Hp) (C : Addr) (cl : List (Str × Addr)) (fp : List Addr), PG (CxX X s H scope (compEnvC scope cl C X.env) fp E) tg g)
    (ht : ∀ (s : Shared) (H : Hp) (C : Addr) (cl : List (Str × Addr)) (fp : List Addr), PTs (CxX X s H scope (compEnvC scope cl C X.env) fp E) ifs tt)
    (he : ∀ (s : Shared) (H : Hp) (C : Addr) (cl : List (Str × Addr)) (fp : List Addr), PE (CxX X s H scope (compEnvC scope cl C X.env) fp E) elt te) (hs : ∀ x, foldedSetIterable iter X.env x = pure x := by intro _; rfl) :
    PS X (.Assign [.Name y py] (.ListComp elt [⟨tg, iter, ifs, 0⟩] scope pos) spos) (tAsg (tLc wi g tt te (own.map (·.2))) (gName i)) := by
  refine ⟨fun pins s σ H D I h => ?_⟩
  rw [exec_Assign_Name_used _ _ _ _ hsw]
  refine wpAny_bind (wpAny_standAt (wpAny_bind ?_))
  show wpAny _ X.A (do let _ ← comprehension (.ListComp elt [⟨tg, iter, ifs, 0⟩] scope pos) scope X.env (firstIterPos [⟨tg, iter, ifs, 0⟩] pos) (newList []) false (eval iter X.env) (some (assign (.Name y py) X.env))) _ _ s
  have h : tLc wi g tt te (own.map (·.2)) σ H (fun x H1 => gName i x σ H1 D.nx) := h
  refine wpAny_bind (thn (lc_coreX (Qf := fun _ t => SP X pins D .next t) hst hf tk hW hc hN I hi ok hg ht he hs h fun L C t m H' I' q hn f => ?_) fun _ t hq => wpAny_pure (wpAny_pure hq))
  show wpAny _ _ (assign (.Name y py) X.env (.ref L)) _ _ _
  refine wpAny_assign_Name (store_ok2 (v := V.ref L) I' hN hy (.inl hyl) rfl (fun s2 I2 ⟨a, sb, ha⟩ => ?_) (.inr hyl))
  have haC : C ≠ a := ha.elim (fun z => by rw [z]; exact f.2.1) fun z w => f.2.2.2.2.1 y a z w.symm
  exact ⟨m, hn.sameBut sb haC, fun g3 sb3 => ⟨_, H', I2.turned (t' := s2.toks) (fun b o hb z => (sb3.2 b hb).trans z) f.1 f.2.1 f.2.2.2.1 f.2.2.2.2.1 f.2.2.2.2.2, q⟩⟩
end
end NV

set_option Elab.async false
set_option linter.all false
set_option maxRecDepth 100000
set_option maxHeartbeats 4000000
/-! # comprehensions whose items may raise, over plain data -/
namespace NV
open PySem PySem.Spec PyProof.Rows L2
open Evl (Ex)
def fLcX (fi : Env → W (List D)) (fg : D → Env → W Env) (ft : Env → W Bool) (fe : Env → W D) (vs : List Nat) : Env → W D := fun ρ => (fi ρ).bind fun ds => .chk (ds.length ≤ 16777216) ((lcGo fg ft fe (wipeD ρ vs) ds).bind fun es => .ok (.lst es))
section
variable {K : PySem.W.Frag} {mg : Str → Option Value} {Eo : XK} {own : List Nat}
theorem pd_lcX {m : Md} {vs : List Nat} {wi : TI} {g : TG} {tt : TT} {te : TE} {fi : Env → W (List D)} {fg : D → Env → W Env} {ft : Env → W Bool} {fe : Env → W D}
    (hi : PDI K mg Eo own false wi fi) (hg : PGD K own vs g fg) (ht : PDT K mg Eo own tt ft) (he : PD K mg Eo own .v te fe) : PD K mg Eo own m (tLc wi g tt te vs) (fLcX fi fg ft fe vs) := fun M ρ σ H Q mk E h => by
  refine hi M ρ σ H _ mk E ((fi ρ).mono (fun ds p J H1 e1 srv => ?_) (fun _ z => z) h)
  obtain ⟨hlen, p⟩ := p
  intro D nD
  have mk1 := mk.ex e1
  have E1 := E.ex e1
  have sv := srv.ex (M1 M D) (fun ds vs r => DxAll.more nD ds r)
  have xD := Evl.Ex.new (o := .lst []) nD
  refine ⟨fun i n H2 => ∃ es acc, i + n = ds.length ∧ Ex H1 H2 ∧ H2 D = some (.lst acc) ∧ DxAll K (M1 M D) H2 es acc ∧ acc.length ≤ i ∧ (lcGo fg ft fe (wipeD ρ vs) (ds.drop i)).run (fun r => Post K M H1 Q m (.lst (es ++ r))) (PostX mg H1 Eo),
    ⟨ds.length, [], [], Nat.zero_add _, xD, upd_same, rfl, Nat.zero_le _, ?_⟩, ?_⟩
  · rw [List.drop_zero]
    exact (lcGo fg ft fe (wipeD ρ vs) ds).mono (fun r p => by rw [List.nil_append]; exact Post.mono e1 p) (fun n z => z.mono e1) p
  rintro i n H2 ⟨es, acc, hn, ex2, hD, rD, hacc, run⟩
  obtain ⟨sgo, sstop⟩ := sv H2 ex2
  by_cases hlt : i < ds.length
  · have hd : ds[i]? = some ds[i] := List.getElem?_eq_getElem hlt
    generalize ds[i] = d at hd
    obtain ⟨go, yld⟩ := sgo i d hd
    refine .inr ⟨go, fun H3 => ∃ es acc, (i + 1) + (n - 1) = ds.length ∧ Ex H1 H3 ∧ H3 D = some (.lst acc) ∧ DxAll K (M1 M D) H3 es acc ∧ acc.length ≤ i + 1 ∧ (lcGo fg ft fe (wipeD ρ vs) (ds.drop (i + 1))).run (fun r => Post K M H1 Q m (.lst (es ++ r))) (PostX mg H1 Eo), fun H3 z => ⟨n - 1, by omega, z⟩, ?_⟩
    intro x H3 hy
    obtain ⟨ex3, rx⟩ := yld x H3 hy
    have e13 := ex2.trans ex3
    have hD3 := ex3 _ _ hD
    have mk3 : Mk (M1 M D) H3 := Mk.more mk1 e13 hD3
    have EW : EnvE K (M1 M D) own H3 (wipe σ vs) (wipeD ρ vs) := ((E1.more nD).ex e13).wipe vs
    rw [show ds.drop i = d :: ds.drop (i + 1) from drop_cons hd] at run
    refine hg (M1 M D) (wipeD ρ vs) (wipe σ vs) H3 d x _ _ EW rx ((fg d (wipeD ρ vs)).mono (fun ρ2 p σ2 E2 a2 b2 c2 => ⟨?_, ?_⟩) (fun _ z => z) run)
    · rw [← wipe_wipe σ vs]
      exact wipe_eq c2 a2
    · refine ht (M1 M D) ρ2 σ2 H3 _ mk3 E2 ((ft ρ2).mono (fun b p H4 e4 => ?_) (fun n z => z.mono e13) p)
      have hD4 := e4 _ _ hD3
      have e14 := e13.trans e4
      cases b with
      | false => exact ⟨es, acc, by omega, e14, hD4, rD.ex (ex3.trans e4), by omega, p⟩
      | true =>
        refine he (M1 M D) ρ2 σ2 H4 _ (mk3.ex e4) (E2.ex e4) ((fe ρ2).mono (fun y p v H5 e5 rv => ?_) (fun n z => z.mono e14) p)
        have hD5 := e5 _ _ hD4
        have e15 := e14.trans e5
        refine ⟨acc, hD5, by show acc.length < 16777216; omega, es ++ [y], acc ++ [v], by omega, Evl.Ex.mut e15 nD, upd_same, ?_, by rw [List.length_append, List.length_singleton]; omega, ?_⟩
        · exact DxAll.kx (Kx.upd (.inr rfl) hD5) _ (DxAll.app (rD.ex (ex3.trans (e4.trans e5))) ⟨v, [], rfl, rv, rfl⟩)
        · refine (lcGo fg ft fe (wipeD ρ vs) (ds.drop (i + 1))).mono (fun r p => ?_) (fun _ z => z) p
          rw [List.append_assoc]
          exact p
  · have hi : ds.length ≤ i := by omega
    rw [List.drop_eq_nil_of_le hi] at run
    have run' : Post K M H1 Q m (.lst (es ++ [])) := run
    rw [List.append_nil] at run'
    exact .inl ⟨sstop i hi, Post.made mk1 run' ex2 nD hD rD⟩
end
section
variable {qd : D → Prop} {e : Str → Prop} {ρ ρ' : Env} {fg : D → Env → W Env} {ft : Env → W Bool} {fe : Env → W D}
theorem we_lcX {fi : Env → W (List D)} {vs : List Nat} [s : WipC ρ vs ρ'] (h : (fi ρ).rn (fun ds => ds.length ≤ 16777216 ∧ (lcGo fg ft fe ρ' ds).rn (fun es => qd (.lst es)) e) e) : (fLcX fi fg ft fe vs ρ).rn qd e := by
  refine (fi ρ).mono (fun ds p => ?_) (fun _ z => z) h
  refine ⟨p.1, ?_⟩
  rw [s.eq]
  exact p.2
end
end NV

set_option Elab.async false
set_option linter.all false
set_option maxRecDepth 100000
set_option maxHeartbeats 4000000
/-! # methods: index, count, rfind -/
namespace NV
open PySem PySem.Spec PyProof.Rows L2
open Evl (Ex)
/-- where a text stands first -/
def idxS (z : List Nat) : List (List Nat) → Option Nat
  | [] => none
  | l :: r => if l = z then some 0 else (idxS z r).map (· + 1)
theorem idxS_spec {z : List Nat} : ∀ {ls : List (List Nat)} {j : Nat}, idxS z ls = some j → ls[j]? = some z ∧ ∀ m, m < j → ls[m]? ≠ some z
  | [], _, h => by cases h
  | l :: r, j, h => by
    unfold idxS at h
    by_cases q : l = z
    · rw [if_pos q] at h; cases h
      exact ⟨by rw [q]; rfl, fun m hm => absurd hm (Nat.not_lt_zero _)⟩
    · rw [if_neg q] at h
      cases e : idxS z r with
      | none => rw [e] at h; cases h
      | some i =>
        rw [e] at h; cases h
        obtain ⟨h1, h2⟩ := idxS_spec e
        refine ⟨by simpa using h1, fun m hm => ?_⟩
        cases m with
        | zero => intro w; exact q (by simpa using w)
        | succ m => simpa using h2 m (Nat.lt_of_succ_lt_succ hm)
def idxD (x : D) : List D → Option Nat
  | [] => none
  | d :: r => if eqD d x = true then some 0 else (idxD x r).map (· + 1)
theorem idxD_spec {x : D} : ∀ {ds : List D} {j : Nat}, idxD x ds = some j → (∃ d, ds[j]? = some d ∧ eqD d x = true) ∧ ∀ m d, m < j → ds[m]? = some d → eqD d x = false
  | [], _, h => by cases h
  | l :: r, j, h => by
    unfold idxD at h
    by_cases q : eqD l x = true
    · rw [if_pos q] at h; cases h
      exact ⟨⟨l, rfl, q⟩, fun m d hm => absurd hm (Nat.not_lt_zero _)⟩
    · rw [if_neg q] at h
      cases e : idxD x r with
      | none => rw [e] at h; cases h
      | some i =>
        rw [e] at h; cases h
        obtain ⟨⟨d, h1, h3⟩, h2⟩ := idxD_spec e
        refine ⟨⟨d, by simpa using h1, h3⟩, fun m d' hm hd => ?_⟩
        cases m with
        | zero => simp at hd; subst hd; simpa using q
        | succ m => exact h2 m d' (Nat.lt_of_succ_lt_succ hm) (by simpa using hd)
def rTIdx (K : PySem.W.Frag) : V → List V → Hp → VK → Prop := fun x xs H Q => ∃ p, ∃ ys : List Str, ∃ z j, x = .ref p ∧ xs = [.str z] ∧ SqT K H p (ys.map V.str) ∧ ys[j]? = some z ∧ (∀ m, m < j → ys[m]? ≠ some z) ∧ Q (.int (j : Nat)) H
def tGI (K : PySem.W.Frag) (xs : List V) (te : TE) : TE := fun σ H Q => ∀ a, (∀ H, SqT K H a xs) → tCons te tNil σ H (fun ys H2 => rTIdx K (.ref a) ys H2 Q)
/-- NAME.index(e), NAME a tuple of texts of the module's top -/
theorem nGIdx {X : Cx} {K : PySem.W.Frag} {mg : Str → Option Value} {x : Str} {xs : List V} {p apos cpos : Pos} {e : Expr} {te : TE} (hm : GTup K mg x xs) (he' : PA X [e] (tCons te tNil)) (hK : X.K = K := by rfl) (hM : X.mg = mg := by rfl) (hg : Gl X x := by rfl) (hd : (x == ("__debug__" : Str)) = false := by decide)
    (hbase : attributeBase (.Name x p) "index" X.env (eval (.Name x p) X.env) = eval (.Name x p) X.env := by rfl)
    (hline : (apos.endLine == cpos.line) = true := by rfl) (hs : starEach [e] X.env = (false, eval e X.env) :: starEach [] X.env := by rfl)
    (hfew : ((backTo cpos (starEach [e] X.env)).all (fun x => !x.1) && (backToKw cpos (keywordEach [] X.env)).all (fun x => x.1.isSome) && decide ([e].length + ([] : List Keyword).length + (if ([] : List Keyword).isEmpty then 0 else 1) < 30)) = true := by rfl)
    (hplain : (backTo cpos (starEach [] X.env)).any (·.1) = false := by rfl) : PE X (.Call (.Attribute (.Name x p) "index" apos) [e] [] cpos) (tGI K xs te) := by
  subst hK hM
  obtain ⟨a, hm, ht, o, ho, hc, hdd⟩ := hm
  exact PEwk (pe_bm (r := rTIdx X.K) PySem.F.plainAttrs_tuple PySem.F.slot_tuple_index PySem.F.type_tuple_index mt_tup_index (pe_glob hg hm (v := .ref a) rfl hd) he' hbase hfew hline hs hplain) fun σ H Q h =>
    ⟨.inr (.inl ⟨rfl, o, ho, hc, hdd⟩), h a ht⟩
def dGI (ls : List (List Nat)) : D → W D
  | .str z => (match idxS z ls with
    | some j => .ok (.int (j : Nat))
    | none => .stuck)
  | _ => .stuck
def dLIdx : D → D → W D
  | .lst ds, x => .chk (x.flat0 = true ∧ ds.all D.flat0 = true) (match idxD x ds with
    | some j => .ok (.int (j : Nat))
    | none => .stuck)
  | _, _ => .stuck
def dCount : D → D → W D
  | .str a, .str b => .ok (.int (Txt.count (S a) (S b)))
  | _, _ => .stuck
def dRfind : D → D → W D
  | .str a, .str b => .ok (.int (Txt.rfind (S a) (S b)))
  | _, _ => .stuck
/-- a method of one argument; the object is of the type T -/
def fBM (T : String) (f : D → D → W D) (fo fe : Env → W D) : Env → W D := fun ρ => (fo ρ).bind fun x => .chk (tyD x = some T) ((fe ρ).bind fun y => f x y)
section
variable {K : PySem.W.Frag} {mg : Str → Option Value} {Eo : XK} {own : List Nat} {m : Md}
theorem pd_gidx {xs : List V} (ls : List (List Nat)) {te : TE} {fe : Env → W D} (hx : xs = (ls.map S).map V.str) (he : PD K mg Eo own .s te fe) : PD K mg Eo own m (tGI K xs te) (fUn (dGI ls) fe) := fun M ρ σ H Q mk E h a ha =>
  he M ρ σ H _ mk E ((fe ρ).mono (fun y p v H1 e1 r1 => by
    subst hx
    cases y <;> first | (exact False.elim p) | skip
    rename_i z
    cases r1.val (fun _ q => nomatch q)
    cases q : idxS z ls with
    | none => dsimp only [dGI] at p; rw [q] at p; exact False.elim p
    | some j =>
      dsimp only [dGI] at p; rw [q] at p
      obtain ⟨h1, h2⟩ := idxS_spec q
      refine ⟨a, ls.map S, S z, j, rfl, rfl, ha _, by rw [List.getElem?_map, h1]; rfl, fun n hn w => ?_, (show Post K M H Q m (.int (j : Nat)) from p).use e1 rfl (fun _ q => nomatch q)⟩
      rw [List.getElem?_map] at w
      cases g : ls[n]? with
      | none => rw [g] at w; cases w
      | some l =>
        rw [g] at w
        have w' : S l = S z := by simpa using w
        exact h2 n hn (by rw [g, S_inj w'])) (fun _ z => z) h)
theorem pd_bm1 {T : String} {r : V → List V → Hp → VK → Prop} {f : D → D → W D} {to te : TE} {fo fe : Env → W D} (hT : ∀ (M : Addr → Prop) (H : Hp) (x : D) (v : V), DxS K M H x v → tyD x = some T → tyV K T v H) (hr : RD K m (fun v w => r v [w]) f) (ho : PD K mg Eo own .s to fo) (he : PD K mg Eo own .s te fe) :
    PD K mg Eo own m (tBM K T r to (tCons te tNil)) (fBM T f fo fe) := fun M ρ σ H Q mk E h =>
  ho M ρ σ H _ mk E ((fo ρ).mono (fun x p v H1 e1 r1 => ⟨hT M H1 x v r1 p.1, he M ρ σ H1 _ (mk.ex e1) (E.ex e1) ((fe ρ).mono (fun y p w H2 e2 r2 => hr M H2 x y v w Q _ (mk.ex (e1.trans e2)) (r1.ex e2) r2 ((f x y).mono (fun d p => p.mono (e1.trans e2)) (fun _ z => z) p)) (fun n z => z.mono e1) p.2)⟩) (fun _ z => z) h)
theorem ty_str {M : Addr → Prop} {H : Hp} {x : D} {v : V} (h : DxS K M H x v) (t : tyD x = some "str") : tyV K "str" v H := by
  cases x <;> first | (injection t with t; exact absurd t (by decide)) | (cases t; done) | skip
  cases h.val (fun _ q => nomatch q)
  rfl
theorem ty_lst {M : Addr → Prop} {H : Hp} {x : D} {v : V} (h : DxS K M H x v) (t : tyD x = some "list") : tyV K "list" v H := by
  cases x <;> first | (injection t with t; exact absurd t (by decide)) | (cases t; done) | skip
  obtain ⟨a, xs, rfl, h1, h2⟩ := h.lst
  exact .inl ⟨rfl, xs, .of h1⟩
theorem rd_lidx : RD K m (fun v w => rIndex K v [w]) dLIdx := by
  intro M H x y v w Q e mk hx hy h
  cases x <;> first | (exact False.elim h) | skip
  rename_i ds
  obtain ⟨a, xs, rfl, h1, h2⟩ := hx.lst
  obtain ⟨⟨f1, f2⟩, h⟩ := h
  have hv : Dx K M H y w := hy.val (fun ds e => by rw [e] at f1; cases f1)
  cases q : idxD y ds with
  | none => rw [q] at h; exact False.elim h
  | some j =>
    rw [q] at h
    obtain ⟨⟨d, g1, g2⟩, g3⟩ := idxD_spec q
    obtain ⟨u, e3, ru⟩ := DxAll.get h2 g1
    have fd : d.flat0 = true := List.all_eq_true.mp f2 d (List.mem_of_getElem? g1)
    refine ⟨a, xs, w, j, u, rfl, rfl, .of h1, flat0_V hv f1, flat0_all h2 f2, e3, by rw [eqV_D ru hv fd f1]; exact g2, fun n z hn hz => ?_, Post.int h⟩
    obtain ⟨d', g4, r4⟩ := DxAll.get' h2 hz
    rw [eqV_D r4 hv (List.all_eq_true.mp f2 d' (List.mem_of_getElem? g4)) f1]
    exact g3 n d' hn g4
theorem rd_count : RD K m (fun v w H Q => ∃ a b, v = .str a ∧ [w] = [.str b] ∧ Q (.int (Txt.count a b)) H) dCount := by
  intro M H x y v w Q e mk hx hy h
  cases x <;> cases y <;> first | (exact False.elim h) | skip
  cases hx.val (fun _ q => nomatch q); cases hy.val (fun _ q => nomatch q)
  exact ⟨_, _, rfl, rfl, Post.int h⟩
theorem rd_rfind : RD K m (fun v w H Q => ∃ a b, v = .str a ∧ [w] = [.str b] ∧ Q (.int (Txt.rfind a b)) H) dRfind := by
  intro M H x y v w Q e mk hx hy h
  cases x <;> cases y <;> first | (exact False.elim h) | skip
  cases hx.val (fun _ q => nomatch q); cases hy.val (fun _ q => nomatch q)
  exact ⟨_, _, rfl, rfl, Post.int h⟩
end
section
variable {qd : D → Prop} {e : Str → Prop} {ρ : Env} {fo fe : Env → W D} {f : D → D → W D}
theorem we_bm {T : String} (h : (fo ρ).rn (fun x => tyD x = some T ∧ (fe ρ).rn (fun y => (f x y).rn qd e) e) e) : (fBM T f fo fe ρ).rn qd e := h
theorem wk_ty {A : Prop} {x : D} {T : String} (h : tyD x = some T) (k : A) : tyD x = some T ∧ A := ⟨h, k⟩
theorem wo_gidx {ls : List (List Nat)} {z : List Nat} {j : Nat} (g : idxS z ls = some j) (h : qd (.int (j : Nat))) : (dGI ls (.str z)).rn qd e := by
  dsimp only [dGI]; rw [g]; exact h
theorem wo_lidx {ds : List D} {x : D} {j : Nat} (f1 : x.flat0 = true) (f2 : ds.all D.flat0 = true) (g : idxD x ds = some j) (h : qd (.int (j : Nat))) : (dLIdx (.lst ds) x).rn qd e := by
  refine ⟨⟨f1, f2⟩, ?_⟩
  rw [g]; exact h
theorem wo_count {a b : List Nat} (h : qd (.int (Txt.count (S a) (S b)))) : (dCount (.str a) (.str b)).rn qd e := h
theorem wo_rfind {a b : List Nat} (h : qd (.int (Txt.rfind (S a) (S b)))) : (dRfind (.str a) (.str b)).rn qd e := h
end
/-! ### things without lists that are reckoned with lists of one's own -/
mutual
def D.free : D → Bool
  | .non => true
  | .bl _ => true
  | .int _ => true
  | .str _ => true
  | .tup ds => freeAll ds
  | _ => false
def freeAll : List D → Bool
  | [] => true
  | d :: ds => d.free && freeAll ds
end
def fScal (fe : Env → W D) : Env → W D := fun ρ => (fe ρ).bind fun d => .chk (d.free = true) (.ok d)
/-- without the addresses of the slots' own lists -/
def MOwn (M : Addr → Prop) (own : List Nat) (σ : L2.St) : Addr → Prop := fun b => M b ∧ ∀ i ∈ own, σ[i]? ≠ some (some (.ref b))
section
variable {K : PySem.W.Frag} {mg : Str → Option Value} {Eo : XK} {own : List Nat}
theorem EnvE.unown {M : Addr → Prop} {H : Hp} {σ : L2.St} {ρ : Env} (E : EnvE K M own H σ ρ) : EnvE K (MOwn M own σ) [] H σ ρ := by
  refine ⟨E.len, fun i d _ h => ?_, fun i d n => by cases n⟩
  by_cases q : i ∈ own
  · obtain ⟨ds, a, xs, h1, rfl, h2, h3, h4⟩ := E.own i d q h
    exact ⟨.ref a, h1, a, xs, rfl, fun z => z.2 i q h1, h3, DxAll.less (fun b z => z.1) ds h4⟩
  · obtain ⟨v, h1, h2⟩ := E.val i d q h
    exact ⟨v, h1, Dx.less (fun b z => z.1) d h2⟩
mutual
theorem free_dx {M M' : Addr → Prop} {H : Hp} : ∀ (d : D) {v : V}, d.free = true → Dx K M H d v → Dx K M' H d v
  | .non, _, _, h => h
  | .bl _, _, _, h => h
  | .int _, _, _, h => h
  | .str _, _, _, h => h
  | .tup ds, _, s, h => by
    obtain ⟨a, xs, e, h1, h2⟩ := h
    exact ⟨a, xs, e, h1, freeAll_dx ds s h2⟩
theorem freeAll_dx {M M' : Addr → Prop} {H : Hp} : ∀ (ds : List D) {vs : List V}, freeAll ds = true → DxAll K M H ds vs → DxAll K M' H ds vs
  | [], _, _, h => h
  | d :: ds, _, s, h => by
    have s' : (d.free && freeAll ds) = true := s
    rw [Bool.and_eq_true] at s'
    obtain ⟨x, r, e, h1, h2⟩ := h
    exact ⟨x, r, e, free_dx d s'.1 h1, freeAll_dx ds s'.2 h2⟩
end
theorem pd_scal {m : Md} {te : TE} {fe : Env → W D} (h : PD K mg Eo [] .v te fe) : PD K mg Eo own m te (fScal fe) := fun M ρ σ H Q mk E r =>
  h (MOwn M own σ) ρ σ H Q (fun a z => mk a z.1) E.unown ((fe ρ).mono (fun d p v H' e x => by
    obtain ⟨s, p⟩ := p
    exact Post.use (show Post K M H Q m d from p) e (free_dx d s x) (fun ds z => by rw [z] at s; cases s)) (fun _ z => z) r)
end
def Kscal (q : D → Prop) (d : D) : Prop := d.free = true ∧ q d
section
variable {qd : D → Prop} {e : Str → Prop} {ρ : Env} {fe : Env → W D}
theorem we_scal (h : (fe ρ).rn (Kscal qd) e) : (fScal fe ρ).rn qd e := h
theorem wk_scn (h : qd .non) : Kscal qd .non := ⟨rfl, h⟩
theorem wk_scb {b : Bool} (h : qd (.bl b)) : Kscal qd (.bl b) := ⟨rfl, h⟩
theorem wk_sci {b : Int} (h : qd (.int b)) : Kscal qd (.int b) := ⟨rfl, h⟩
theorem wk_scs {b : List Nat} (h : qd (.str b)) : Kscal qd (.str b) := ⟨rfl, h⟩
theorem wk_sctr {t : Tr} (h : qd (treeX t)) : Kscal qd (treeX t) := ⟨rfl, h⟩
theorem wk_sctp {ds : List D} (f : freeAll ds = true) (h : qd (.tup ds)) : Kscal qd (.tup ds) := ⟨f, h⟩
end
/-! ### xs[::-1], reversed -/
def dRevL : D → W D
  | .lst ds => .ok (.lst ds.reverse)
  | _ => .stuck
section
variable {K : PySem.W.Frag} {mg : Str → Option Value} {Eo : XK} {own : List Nat} {m : Md}
theorem pd_revl {te : TE} {fe : Env → W D} (he : PD K mg Eo own .s te fe) : PD K mg Eo own m (tRevL K te) (fUn dRevL fe) := fun M ρ σ H Q mk E h =>
  he M ρ σ H _ mk E ((fe ρ).mono (fun x p v H1 e1 r1 => by
    cases x <;> first | (exact False.elim p) | skip
    obtain ⟨a, xs, rfl, h1, h2⟩ := r1.lst
    exact ⟨a, xs, rfl, .of h1, fun p' np => Post.newl (mk.ex e1) (Post.mono e1 (show Post K M H Q m (.lst (_ : List D).reverse) from p)) np (DxAll.rev h2)⟩) (fun _ z => z) h)
end
section
variable {qd : D → Prop} {ql : List D → Prop} {e : Str → Prop} {ρ : Env} {fe : Env → W D}
theorem wo_revl {l : List D} (h : qd (.lst l.reverse)) : (dRevL (.lst l)).rn qd e := h
theorem wi_ru (h : (fe ρ).rn (fun d => (revU d).rn ql e) e) : (fRevU fe ρ).rn ql e := h
theorem wi_rul {l : List D} (h : ql l.reverse) : (revU (.lst l)).rn ql e := h
end
end NV

set_option Elab.async false
set_option linter.all false
set_option maxRecDepth 100000
set_option maxHeartbeats 4000000
/-! # max of a tuple of whole numbers -/
namespace NV
open PySem PySem.Spec PyProof.Rows L2
open Evl (Ex)
section
variable {prog : Program} {w : World} {A : Around} {E : Value → Shared → Prop} {s : Shared} {l : Addr}
theorem max_tupI {xs : Array (Int × Tok)} {Q : Value → Shared → Prop} (hh : A.handled = none) (hl : s.heap.IsTuple l (intItems xs)) (hne : 0 < xs.size)
    (h : ∀ v h' tk, (intItems xs)[argBest (fun i j => decide (numAt xs i > numAt xs j)) (xs.size - 1)]? = some v → (∀ b o, s.heap.get? b = some o → h'.get? b = some o) → Q v { s with heap := h', toks := tk }) :
    wpAny (model prog w) A (call (.builtin "max") [.ref l]) Q E s := by
  have hlt : l < s.heap.objs.size := by obtain ⟨_, e, _⟩ := hl; exact Heap.lt_size e
  refine call_max_walk (wpAny_pyIter_tuple hl ?_)
  refine ⟨_, _, _, _, _, _, _, rfl, Walks.tuple (A := A.in1) hh _ l (Nat.ne_of_lt hlt) (intItems xs), ⟨⟨_, Heap.get?_push_size _ rfl, rfl, rfl⟩, hl.push _⟩, fun c hc => ?_, by simpa [intItems] using hne, CmpOf.ints_gt (numAt xs) (fun _ _ => intItems_at), fun v h' tk hP hk => ?_⟩
  · show c < (s.heap.push _).objs.size
    rw [Heap.size_push]
    rcases List.mem_cons.mp hc with rfl | hc
    · exact Nat.lt_succ_self _
    · rcases List.mem_cons.mp hc with rfl | hc
      · exact Nat.lt_succ_of_lt hlt
      · cases hc
  · refine h v h' tk (by simpa [intItems] using hP) fun b o e => hk b o (fun hm => ?_) (Heap.get?_push_of_some _ e)
    rcases List.mem_cons.mp hm with e1 | hm
    · exact absurd (e1 ▸ Heap.lt_size e) (Nat.lt_irrefl _)
    · cases hm
theorem max_rawT {its : List Value} {ns : List Int} {Q : Value → Shared → Prop} (hh : A.handled = none) (hl : s.heap.IsTuple l its.toArray) (hi : IntsAre its ns) (hne : 0 < ns.length)
    (h : ∀ h' tk M t', (∀ b o, s.heap.get? b = some o → h'.get? b = some o) → M ∈ ns → (∀ a, a ∈ ns → a ≤ M) → Q (.int M t') { s with heap := h', toks := tk }) : wpAny (model prog w) A (call (.builtin "max") [.ref l]) Q E s := by
  obtain ⟨xs, e⟩ := hi.allInts.items
  have hn : numsOf (intItems xs).toList = ns := by rw [← e]; exact hi.numsOf
  rw [nums_intItems] at hn
  subst hn
  rw [e] at hl
  have hsz : 0 < xs.size := by simpa using hne
  refine max_tupI hh hl hsz fun v h' tk hv hk => ?_
  obtain ⟨t, rfl⟩ := intItems_at hv
  obtain ⟨h1, h2⟩ := argBest_gt (numAt xs) (xs.size - 1)
  refine h h' tk _ t hk ?_ fun a ha => ?_
  · rw [numAt_eq]; exact PySem.getD_mem (by rw [List.length_map, Array.length_toList]; omega)
  · obtain ⟨j, hj, rfl⟩ := mem_getD ha
    rw [List.length_map, Array.length_toList] at hj
    rw [← numAt_eq]; exact h2 j (by omega)
end
def rMaxT (K : PySem.W.Frag) : List V → Hp → VK → Prop := fun vs H Q => ∃ (a : Addr) (ns : List Int), vs = [V.ref a] ∧ SqT K H a (ns.map V.int) ∧ 0 < ns.length ∧ ∀ m, m ∈ ns → (∀ y, y ∈ ns → y ≤ m) → Q (.int m) H
theorem cMaxT {X : Cx} {K : PySem.W.Frag} (hc : X.calm = true) (hK : X.K = K := by rfl) : CallR X (.builtin "max") (rMaxT K) := by
  subst hK
  intro pins s σ H vs us Q I r h
  obtain ⟨a, ns, rfl, hs, hne, q⟩ := h
  obtain ⟨its, rv, hl, _⟩ := I.tuple hs
  rw [Vals.ref1 r]
  exact max_rawT (I.ok.hd hc) hl rv.ints hne fun h' tk m t' hk h1 h2 => ⟨.int _, H, I.kept hk, ⟨_, rfl⟩, q m h1 h2⟩
def dMaxT : D → W D
  | .tup ds => (match intsD ds with
    | some (n :: r) => .ok (.int (maxL n r))
    | _ => .stuck)
  | _ => .stuck
section
variable {K : PySem.W.Frag} {m : Md}
theorem rc_maxT : RC1 K m (rMaxT K) dMaxT := by
  intro M H x v Q e mk hx h
  cases x <;> first | (exact False.elim h) | skip
  rename_i ds
  obtain ⟨a, xs, rfl, h1, h2⟩ := hx.val (fun _ q => nomatch q)
  cases q : intsD ds with
  | none => dsimp only [dMaxT] at h; rw [q] at h; exact False.elim h
  | some ns =>
    cases ns with
    | nil => dsimp only [dMaxT] at h; rw [q] at h; exact False.elim h
    | cons n r =>
      dsimp only [dMaxT] at h; rw [q] at h
      rw [intsD_eq q] at h2
      rw [dxi_eq h2] at h1
      refine ⟨a, n :: r, rfl, h1, Nat.succ_pos _, fun k hk hg => ?_⟩
      obtain ⟨g1, g2, g3⟩ := maxL_ge r n
      have e : k = maxL n r := by
        have u1 : k ≤ maxL n r := by
          rcases List.mem_cons.mp hk with e | hk
          · rw [e]; exact g1
          · exact g2 k hk
        have u2 : maxL n r ≤ k := by
          rcases g3 with e | e
          · rw [e]; exact hg n List.mem_cons_self
          · exact hg _ (List.mem_cons_of_mem _ e)
        omega
      rw [e]
      exact Post.int (show Post K M H Q m (.int (maxL n r)) from h)
end
section
variable {qd : D → Prop} {e : Str → Prop}
theorem wo_maxt1 {n : Int} (h : qd (.int n)) : (dMaxT (.tup [.int n])).rn qd e := h
theorem wo_maxt2 {n m : Int} (h : qd (.int (if n < m then m else n))) : (dMaxT (.tup [.int n, .int m])).rn qd e := h
end
end NV

set_option Elab.async false
set_option linter.all false
set_option maxRecDepth 100000
set_option maxHeartbeats 4000000
/-! # codes of programs, as trees -/
namespace NV
open PySem PySem.Spec PyProof.Rows L2
open Evl (Ex)
def Row.kind : Row → Nat
  | .set _ _ => 0
  | .move _ _ => 1
  | .cons _ _ _ => 2
  | .head _ _ => 3
  | .tail _ _ => 4
  | .jump _ _ => 5
def Row.reg : Row → Nat
  | .set a _ => a
  | .move a _ => a
  | .cons a _ _ => a
  | .head a _ => a
  | .tail a _ => a
  | .jump a _ => a
def signT (n : Int) : Tr := if n < 0 then oneT else .l
def Row.rest : Row → Tr
  | .set _ t => t
  | .move _ b => numT b
  | .cons _ b c => .n (numT b) (numT c)
  | .head _ b => numT b
  | .tail _ b => numT b
  | .jump _ n => .n (signT n) (numT n.natAbs)
def rowT (r : Row) : Tr := .n (numT r.kind) (.n (numT r.reg) r.rest)
def codeT (rows : List Row) : Tr := listT (rows.map rowT)
theorem numT_pairs (n : Nat) : (numT n).pairs = n := by
  have h := (numT n).enc_len
  rw [numT_enc, tens_len] at h
  omega
theorem numT_len (n : Nat) : (numT n).enc.length = 2 * n + 1 := by rw [numT_enc, tens_len]
theorem n_len (a b : Tr) : (Tr.n a b).enc.length = 1 + a.enc.length + b.enc.length := by
  show (49 :: (a.enc ++ b.enc)).length = _
  rw [List.length_cons, List.length_append]; omega
theorem enc_pos (t : Tr) : 1 ≤ t.enc.length := by have := t.enc_len; omega
theorem rowT_len (r : Row) : (rowT r).enc.length = 4 + 2 * r.kind + 2 * r.reg + r.rest.enc.length := by
  unfold rowT
  rw [n_len, n_len, numT_len, numT_len]; omega
theorem listT_len : ∀ ts : List Tr, (listT ts).enc.length = 1 + (ts.map fun t => 1 + t.enc.length).sum
  | [] => rfl
  | t :: r => by
    show (Tr.n t (listT r)).enc.length = _
    rw [n_len, listT_len r, List.map_cons, List.sum_cons]; omega
theorem codeT_len (rows : List Row) : (codeT rows).enc.length = 1 + (rows.map fun r => 1 + (rowT r).enc.length).sum := by
  unfold codeT
  rw [listT_len, List.map_map]; rfl
theorem codeT_mem {rows : List Row} {r : Row} (h : r ∈ rows) : (rowT r).enc.length + 2 ≤ (codeT rows).enc.length := by
  rw [codeT_len]
  have : 1 + (rowT r).enc.length ≤ (rows.map fun r => 1 + (rowT r).enc.length).sum := le_sum (List.mem_map.mpr ⟨r, h, rfl⟩)
  omega
/-- the number that a tree is -/
def valT : Tr → Option Nat
  | .l => some 0
  | .n .l b => (valT b).map (· + 1)
  | .n (.n _ _) _ => none
theorem valT_num : ∀ n, valT (numT n) = some n
  | 0 => rfl
  | n + 1 => by
    show (valT (numT n)).map (· + 1) = _
    rw [valT_num n]; rfl
theorem valT_some : ∀ {t : Tr} {n : Nat}, valT t = some n → t = numT n
  | .l, n, h => by cases h; rfl
  | .n .l b, n, h => by
    have h' : (valT b).map (· + 1) = some n := h
    cases e : valT b with
    | none => rw [e] at h'; cases h'
    | some m =>
      rw [e] at h'; cases h'
      rw [valT_some e]; rfl
  | .n (.n _ _) _, n, h => by cases h
theorem valT_none {t : Tr} (h : valT t = none) (n : Nat) : t ≠ numT n := fun e => by rw [e, valT_num] at h; cases h
theorem numT_inj {n m : Nat} (h : numT n = numT m) : n = m := by
  have := valT_num n
  rw [h, valT_num] at this
  cases this; rfl
theorem signT_inj {n m : Int} (h1 : signT n = signT m) (h2 : n.natAbs = m.natAbs) : n = m := by
  unfold signT at h1
  by_cases g : n < 0
  · by_cases f : m < 0
    · omega
    · rw [if_pos g, if_neg f] at h1; exact absurd h1 one_ne
  · by_cases f : m < 0
    · rw [if_neg g, if_pos f] at h1; exact absurd h1.symm one_ne
    · omega
theorem rowT_inj {r s : Row} (h : rowT r = rowT s) : r = s := by
  unfold rowT at h
  injection h with h1 h2
  injection h2 with h2 h3
  have h1 := numT_inj h1
  have h2 := numT_inj h2
  cases r <;> cases s <;> first | (simp [Row.kind] at h1; done) | skip
  all_goals simp only [Row.reg] at h2
  all_goals simp only [Row.rest] at h3
  · rw [h2, h3]
  · rw [h2, numT_inj h3]
  · injection h3 with h3 h4
    rw [h2, numT_inj h3, numT_inj h4]
  · rw [h2, numT_inj h3]
  · rw [h2, numT_inj h3]
  · injection h3 with h3 h4
    rw [h2, signT_inj h3 (numT_inj h4)]
theorem map_rowT_inj : ∀ {p q : List Row}, p.map rowT = q.map rowT → p = q
  | [], [], _ => rfl
  | [], _ :: _, h => by cases h
  | _ :: _, [], h => by cases h
  | a :: p, b :: q, h => by
    rw [List.map_cons, List.map_cons] at h
    injection h with h1 h2
    rw [rowT_inj h1, map_rowT_inj h2]
theorem codeT_inj {p q : List Row} (h : codeT p = codeT q) : p = q := by
  have := congrArg Tr.items h
  unfold codeT at this
  rw [items_listT, items_listT] at this
  exact map_rowT_inj this
theorem items_len_le {t u : Tr} (h : u ∈ t.items) : u.enc.length + 2 ≤ t.enc.length := by
  have e := listT_len t.items
  rw [listT_items] at e
  have : 1 + u.enc.length ≤ (t.items.map fun t => 1 + t.enc.length).sum := le_sum (List.mem_map.mpr ⟨u, h, rfl⟩)
  omega
theorem items_many (t : Tr) : 2 * t.items.length + 1 ≤ t.enc.length := by
  have e := listT_len t.items
  rw [listT_items] at e
  have : ∀ l : List Tr, 2 * l.length ≤ (l.map fun t => 1 + t.enc.length).sum := by
    intro l
    induction l with
    | nil => exact Nat.le_refl _
    | cons a l ih =>
      rw [List.length_cons, List.map_cons, List.sum_cons]
      have := enc_pos a
      omega
  have := this t.items
  omega
/-- trees that are codes of instructions -/
theorem code_by_items {t : Tr} {rows : List Row} (h : t.items = rows.map rowT) : t = codeT rows := by
  unfold codeT
  rw [← h, listT_items]
section
variable {qd : D → Prop} {e : Str → Prop}
theorem wo_absn {i : Int} (h : qd (.int (i.natAbs : Nat))) : (dAbs (.int i)).rn qd e := by
  show qd (.int (if i < 0 then -i else i))
  rw [show (if i < 0 then -i else i) = ((i.natAbs : Nat) : Int) by split <;> omega]
  exact h
theorem wi_rows {p : List Row} {ql : List D → Prop} (h : ql (p.map Row.x)) : (itemsD (prgX p)).rn ql e := h
end
/-! ### how long a code is -/
theorem rest_le {w n i : Nat} {r : Row} (h : OkRow w n i r) (hi : i < n) : r.reg < w ∧ r.rest.enc.length ≤ 4 * w + 2 * n + 5 + rowLen r := by
  have hr := h.regs
  cases r with
  | set a t => exact ⟨hr a (by simp [Row.regs]), by show t.enc.length ≤ _ + t.enc.length; omega⟩
  | move a b =>
    have := hr b (by simp [Row.regs])
    exact ⟨hr a (by simp [Row.regs]), by show (numT b).enc.length ≤ _; rw [numT_len]; omega⟩
  | cons a b c =>
    have := hr b (by simp [Row.regs])
    have := hr c (by simp [Row.regs])
    exact ⟨hr a (by simp [Row.regs]), by show (Tr.n (numT b) (numT c)).enc.length ≤ _; rw [n_len, numT_len, numT_len]; omega⟩
  | head a b =>
    have := hr b (by simp [Row.regs])
    exact ⟨hr a (by simp [Row.regs]), by show (numT b).enc.length ≤ _; rw [numT_len]; omega⟩
  | tail a b =>
    have := hr b (by simp [Row.regs])
    exact ⟨hr a (by simp [Row.regs]), by show (numT b).enc.length ≤ _; rw [numT_len]; omega⟩
  | jump a m =>
    obtain ⟨h1, h2, h3⟩ := h
    refine ⟨h1, ?_⟩
    have sg : (signT m).enc.length ≤ 3 := by
      unfold signT
      split <;> decide
    show (Tr.n (signT m) (numT m.natAbs)).enc.length ≤ _
    rw [n_len, numT_len]; omega
theorem kind_le (r : Row) : r.kind ≤ 5 := by cases r <;> simp [Row.kind]
theorem code_le {w : Nat} {rows : List Row} (h : OkPrg w rows) : (codeT rows).enc.length ≤ 1 + rows.length * (20 + 6 * w + 2 * rows.length) + tlen rows := by
  have key : ∀ l : List Row, (∀ r ∈ l, r ∈ rows) → (l.map fun r => 1 + (rowT r).enc.length).sum ≤ l.length * (20 + 6 * w + 2 * rows.length) + tlen l := by
    intro l
    induction l with
    | nil => intro _; exact Nat.zero_le _
    | cons r l ih =>
      intro hm
      have h1 := ih fun s hs => hm s (List.mem_cons_of_mem _ hs)
      obtain ⟨i, hi⟩ := List.mem_iff_getElem?.mp (hm r List.mem_cons_self)
      have hlt := (List.getElem?_eq_some_iff.mp hi).1
      obtain ⟨h2, h3⟩ := rest_le (h i r hi) hlt
      have h4 := rowT_len r
      have h5 := kind_le r
      have e : tlen (r :: l) = rowLen r + tlen l := by unfold tlen; rw [List.map_cons, List.sum_cons]
      rw [List.map_cons, List.sum_cons, e, List.length_cons, Nat.succ_mul]
      omega
  rw [codeT_len]
  have := key rows fun r hr => hr
  omega
theorem okPrg_set {w : Nat} {rows : List Row} (h : OkPrg w rows) {k : Nat} {r : Row} (hr : OkRow w rows.length k r) : OkPrg w (rows.set k r) := fun i s hs => by
  rw [List.length_set]
  by_cases e : k = i
  · subst e
    have hlt : k < rows.length := by
      have := (List.getElem?_eq_some_iff.mp hs).1
      rwa [List.length_set] at this
    rw [List.getElem?_set_self hlt] at hs
    cases hs; exact hr
  · rw [List.getElem?_set_ne e] at hs
    exact h i s hs
theorem tlen_set : ∀ (rows : List Row) (k : Nat) (r : Row), tlen (rows.set k r) ≤ tlen rows + rowLen r
  | [], _, _ => Nat.zero_le _
  | s :: rows, 0, r => by
    show tlen (r :: rows) ≤ tlen (s :: rows) + rowLen r
    have e1 : tlen (r :: rows) = rowLen r + tlen rows := by unfold tlen; rw [List.map_cons, List.sum_cons]
    have e2 : tlen (s :: rows) = rowLen s + tlen rows := by unfold tlen; rw [List.map_cons, List.sum_cons]
    omega
  | s :: rows, k + 1, r => by
    have := tlen_set rows k r
    show tlen (s :: rows.set k r) ≤ tlen (s :: rows) + rowLen r
    have e1 : tlen (s :: rows.set k r) = rowLen s + tlen (rows.set k r) := by unfold tlen; rw [List.map_cons, List.sum_cons]
    have e2 : tlen (s :: rows) = rowLen s + tlen rows := by unfold tlen; rw [List.map_cons, List.sum_cons]
    omega
theorem tlen_trees {n : Nat} : ∀ {rows : List Row}, treesLe n rows → tlen rows ≤ rows.length * (2 * n + 1)
  | [], _ => Nat.zero_le _
  | s :: rows, h => by
    have ih := tlen_trees (rows := rows) fun r hr => h r (List.mem_cons_of_mem _ hr)
    have e2 : tlen (s :: rows) = rowLen s + tlen rows := by unfold tlen; rw [List.map_cons, List.sum_cons]
    have hs : rowLen s ≤ 2 * n + 1 := by
      unfold rowLen
      split
      · rename_i t ht
        have := h s List.mem_cons_self t ht
        have := t.enc_len
        omega
      · omega
    rw [e2, List.length_cons, Nat.succ_mul]; omega
theorem rowLen_le {rows : List Row} {r : Row} (h : r ∈ rows) : rowLen r ≤ tlen rows := by
  unfold tlen
  exact le_sum (List.mem_map.mpr ⟨r, h, rfl⟩)
/-! ### deep trees -/
def combL : Nat → Tr
  | 0 => .l
  | m + 1 => .n (combL m) .l
theorem combL_enc : ∀ m : Nat, (combL m).enc = List.replicate m 49 ++ List.replicate (m + 1) 48
  | 0 => rfl
  | m + 1 => by
    show 49 :: ((combL m).enc ++ [48]) = _
    rw [combL_enc m, List.append_assoc, ← List.replicate_succ' (n := m + 1)]
    rfl
def zigL : Nat → Tr
  | 0 => .l
  | m + 1 => .n (.n .l (zigL m)) .l
theorem zigL_enc : ∀ m : Nat, (zigL m).enc = (List.replicate m [49, 49, 48]).flatten ++ List.replicate (m + 1) 48
  | 0 => rfl
  | m + 1 => by
    show 49 :: ((49 :: ([48] ++ (zigL m).enc)) ++ [48]) = _
    have e1 : List.replicate (m + 1) [49, 49, 48] = [49, 49, 48] :: List.replicate m [49, 49, 48] := List.replicate_succ
    have e2 : List.replicate (m + 1 + 1) 48 = List.replicate (m + 1) 48 ++ [48] := List.replicate_succ'
    rw [zigL_enc m, e1, e2, List.flatten_cons]
    simp
theorem pairs_of {t : Tr} {n : Nat} (h : t.enc.length = 2 * n + 1) : t.pairs = n := by have := t.enc_len; omega
end NV

set_option Elab.async false
set_option linter.all false
set_option maxRecDepth 100000
set_option maxHeartbeats 4000000
/-! # programs that are written down: checks, straight runs -/
namespace NV
open PySem PySem.Spec PyProof.Rows L2
open Evl (Ex)
def okRowB (w cnt i : Nat) : Row → Bool
  | .jump a n => decide (a < w) && (decide (0 ≤ (i : Int) + n) && decide ((i : Int) + n ≤ cnt))
  | r => r.regs.all fun x => decide (x < w)
def okPrgB (w cnt : Nat) : Nat → List Row → Bool
  | _, [] => true
  | i, r :: rs => okRowB w cnt i r && okPrgB w cnt (i + 1) rs
theorem okRow_of {w cnt i : Nat} {r : Row} (h : okRowB w cnt i r = true) : OkRow w cnt i r := by
  cases r with
  | jump a n =>
    have h' : (decide (a < w) && (decide (0 ≤ (i : Int) + n) && decide ((i : Int) + n ≤ cnt))) = true := h
    rw [Bool.and_eq_true, Bool.and_eq_true] at h'
    exact ⟨of_decide_eq_true h'.1, of_decide_eq_true h'.2.1, of_decide_eq_true h'.2.2⟩
  | _ => exact fun x hx => of_decide_eq_true (List.all_eq_true.mp h x hx)
theorem okPrgB_of {w cnt : Nat} : ∀ {rs : List Row} {i : Nat}, okPrgB w cnt i rs = true → ∀ j r, rs[j]? = some r → OkRow w cnt (i + j) r
  | [], _, _, j, r, e => by simp at e
  | s :: rs, i, h, j, r, e => by
    have h' : (okRowB w cnt i s && okPrgB w cnt (i + 1) rs) = true := h
    rw [Bool.and_eq_true] at h'
    cases j with
    | zero => simp at e; subst e; exact okRow_of h'.1
    | succ j =>
      have := okPrgB_of h'.2 j r (by simpa using e)
      rw [show i + 1 + j = i + (j + 1) by omega] at this
      exact this
theorem okPrg_of {w : Nat} {rs : List Row} (h : okPrgB w rs.length 0 rs = true) : OkPrg w rs := fun j r e => by
  have := okPrgB_of h j r e
  rwa [Nat.zero_add] at this
/-- a block is done row by row -/
theorem blk_cons1 {r : Row} {B : List Row} {m : Nat} {R R1 R2 : List Tr} (h : Blk [r] 1 R R1) (t : Blk B m R1 R2) : Blk (r :: B) (m + 1) R R2 := by
  have := blk_app h t
  rw [Nat.add_comm] at this
  exact this
end NV

set_option Elab.async false
set_option linter.all false
set_option maxRecDepth 100000
set_option maxHeartbeats 4000000
/-! # programs that know their own code, as rows; which rows are programs -/
namespace NV
open PySem PySem.Spec PyProof.Rows L2
open Evl (Ex)
/-! ### a program is one whose rows are right -/
theorem isRowD3 {at_ cnt : Int} {w : Str} {a b : PyData} : isRowD at_ cnt (.tuple [.str w, a, b]) = (if w = "set" then treeD b && regD a
    else if w = "jump" then (match b with | .int n => decide (0 ≤ at_ + n) && decide (at_ + n ≤ cnt) | _ => false) && regD a
    else if w = "move" ∨ w = "head" ∨ w = "tail" then regD a && regD b
    else false) := rfl
theorem okRow_isRow {cnt i : Nat} {r : Row} (h : isRowD (i : Int) (cnt : Int) r.d = true) : OkRow 20 cnt i r := by
  have reg : ∀ {a : Nat}, regD (.int (a : Int)) = true → a < 20 := fun {a} z => by
    have z : (decide ((0 : Int) ≤ a) && decide ((a : Int) < 20)) = true := z
    simp at z
    omega
  cases r with
  | set a t =>
    rw [show (Row.set a t).d = .tuple [.str ("set" : Str), .int (a : Int), .str (S t.enc)] from rfl, isRowD3] at h
    rw [if_pos rfl, Bool.and_eq_true] at h
    intro x hx
    rw [List.mem_singleton.mp hx]
    exact reg h.2
  | move a b =>
    rw [show (Row.move a b).d = .tuple [.str ("move" : Str), .int (a : Int), .int (b : Int)] from rfl, isRowD3] at h
    rw [if_neg (by decide +kernel), if_neg (by decide +kernel), if_pos (.inl rfl), Bool.and_eq_true] at h
    have := reg h.1
    have := reg h.2
    intro x hx
    have hx : x ∈ [a, b] := hx
    simp at hx
    omega
  | head a b =>
    rw [show (Row.head a b).d = .tuple [.str ("head" : Str), .int (a : Int), .int (b : Int)] from rfl, isRowD3] at h
    rw [if_neg (by decide +kernel), if_neg (by decide +kernel), if_pos (.inr (.inl rfl)), Bool.and_eq_true] at h
    have := reg h.1
    have := reg h.2
    intro x hx
    have hx : x ∈ [a, b] := hx
    simp at hx
    omega
  | tail a b =>
    rw [show (Row.tail a b).d = .tuple [.str ("tail" : Str), .int (a : Int), .int (b : Int)] from rfl, isRowD3] at h
    rw [if_neg (by decide +kernel), if_neg (by decide +kernel), if_pos (.inr (.inr rfl)), Bool.and_eq_true] at h
    have := reg h.1
    have := reg h.2
    intro x hx
    have hx : x ∈ [a, b] := hx
    simp at hx
    omega
  | cons a b c =>
    have h : (if ("cons" : Str) = "cons" then regD (.int (a : Int)) && (regD (.int (b : Int)) && regD (.int (c : Int))) else false) = true := h
    rw [if_pos rfl, Bool.and_eq_true, Bool.and_eq_true] at h
    have := reg h.1
    have := reg h.2.1
    have := reg h.2.2
    intro x hx
    have hx : x ∈ [a, b, c] := hx
    simp at hx
    omega
  | jump a n =>
    rw [show (Row.jump a n).d = .tuple [.str ("jump" : Str), .int (a : Int), .int n] from rfl, isRowD3] at h
    rw [if_neg (by decide +kernel), if_pos rfl, Bool.and_eq_true] at h
    have hh : (decide (0 ≤ (i : Int) + n) && decide ((i : Int) + n ≤ cnt)) = true := h.1
    rw [Bool.and_eq_true] at hh
    have := reg h.2
    have h1 := of_decide_eq_true hh.1
    have h2 := of_decide_eq_true hh.2
    exact ⟨this, h1, h2⟩
theorem okPrg_isProg {rows : List Row} (h : isProgD (prgD rows) = true) : OkPrg 20 rows := fun i r hr => by
  have h : (decide ((rows.map Row.d).length ≤ 600) && (rowsD ((rows.map Row.d).length : Nat) 0 (rows.map Row.d) && decide (((rows.map Row.d).map setLen).sum ≤ 200000))) = true := h
  rw [Bool.and_eq_true, Bool.and_eq_true] at h
  have g := rowsD_get (i := i) (d := r.d) h.2.1 (by rw [List.getElem?_map, hr]; rfl)
  rw [Nat.zero_add, List.length_map] at g
  exact okRow_isRow g
/-! ### how long codes are -/
def jumpFree (rows : List Row) : Prop := ∀ r ∈ rows, ∀ a n, r ≠ .jump a n
theorem code_gen {b : Nat} : ∀ {l : List Row}, (∀ r ∈ l, 1 + (rowT r).enc.length ≤ b + rowLen r) → (l.map fun r => 1 + (rowT r).enc.length).sum ≤ l.length * b + tlen l
  | [], _ => Nat.zero_le _
  | r :: l, h => by
    have h1 := h r List.mem_cons_self
    have ih := code_gen fun s hs => h s (List.mem_cons_of_mem _ hs)
    have e : tlen (r :: l) = rowLen r + tlen l := by unfold tlen; rw [List.map_cons, List.sum_cons]
    rw [List.map_cons, List.sum_cons, e, List.length_cons, Nat.succ_mul]
    omega
theorem row_le {n i : Nat} {r : Row} (h : OkRow 20 n i r) (hi : i < n) : 1 + (rowT r).enc.length ≤ 126 + 2 * n + rowLen r := by
  have hr := h.regs
  rw [rowT_len]
  cases r with
  | set a t =>
    have := hr a (by simp [Row.regs])
    show 1 + (4 + 2 * 0 + 2 * a + t.enc.length) ≤ 126 + 2 * n + t.enc.length
    omega
  | move a b =>
    have := hr a (by simp [Row.regs])
    have := hr b (by simp [Row.regs])
    show 1 + (4 + 2 * 1 + 2 * a + (numT b).enc.length) ≤ 126 + 2 * n + 0
    rw [numT_len]; omega
  | cons a b c =>
    have := hr a (by simp [Row.regs])
    have := hr b (by simp [Row.regs])
    have := hr c (by simp [Row.regs])
    show 1 + (4 + 2 * 2 + 2 * a + (Tr.n (numT b) (numT c)).enc.length) ≤ 126 + 2 * n + 0
    rw [n_len, numT_len, numT_len]; omega
  | head a b =>
    have := hr a (by simp [Row.regs])
    have := hr b (by simp [Row.regs])
    show 1 + (4 + 2 * 3 + 2 * a + (numT b).enc.length) ≤ 126 + 2 * n + 0
    rw [numT_len]; omega
  | tail a b =>
    have := hr a (by simp [Row.regs])
    have := hr b (by simp [Row.regs])
    show 1 + (4 + 2 * 4 + 2 * a + (numT b).enc.length) ≤ 126 + 2 * n + 0
    rw [numT_len]; omega
  | jump a m =>
    obtain ⟨h1, h2, h3⟩ := h
    have sg : (signT m).enc.length ≤ 3 := by
      unfold signT
      split <;> decide
    show 1 + (4 + 2 * 5 + 2 * a + (Tr.n (signT m) (numT m.natAbs)).enc.length) ≤ 126 + 2 * n + 0
    rw [n_len, numT_len]; omega
theorem code_le20 {rows : List Row} (h : OkPrg 20 rows) : (codeT rows).enc.length ≤ 1 + rows.length * (126 + 2 * rows.length) + tlen rows := by
  have := code_gen (b := 126 + 2 * rows.length) (l := rows) fun r hr => by
    obtain ⟨i, hi⟩ := List.mem_iff_getElem?.mp hr
    exact row_le (h i r hi) (List.getElem?_eq_some_iff.mp hi).1
  rw [codeT_len]
  omega
theorem code_free {rows : List Row} (h : OkPrg 20 rows) (hj : jumpFree rows) : (codeT rows).enc.length ≤ 1 + rows.length * 126 + tlen rows := by
  have := code_gen (b := 126) (l := rows) fun r hr => by
    obtain ⟨i, hi⟩ := List.mem_iff_getElem?.mp hr
    have ok := h i r hi
    have ok0 : OkRow 20 1 0 r := by
      cases r with
      | jump a n => exact absurd rfl (hj _ hr a n)
      | _ => exact ok
    have hr := ok.regs
    rw [rowT_len]
    cases r with
    | set a t =>
      have := hr a (by simp [Row.regs])
      show 1 + (4 + 2 * 0 + 2 * a + t.enc.length) ≤ 126 + t.enc.length
      omega
    | move a b =>
      have := hr a (by simp [Row.regs])
      have := hr b (by simp [Row.regs])
      show 1 + (4 + 2 * 1 + 2 * a + (numT b).enc.length) ≤ 126 + 0
      rw [numT_len]; omega
    | cons a b c =>
      have := hr a (by simp [Row.regs])
      have := hr b (by simp [Row.regs])
      have := hr c (by simp [Row.regs])
      show 1 + (4 + 2 * 2 + 2 * a + (Tr.n (numT b) (numT c)).enc.length) ≤ 126 + 0
      rw [n_len, numT_len, numT_len]; omega
    | head a b =>
      have := hr a (by simp [Row.regs])
      have := hr b (by simp [Row.regs])
      show 1 + (4 + 2 * 3 + 2 * a + (numT b).enc.length) ≤ 126 + 0
      rw [numT_len]; omega
    | tail a b =>
      have := hr a (by simp [Row.regs])
      have := hr b (by simp [Row.regs])
      show 1 + (4 + 2 * 4 + 2 * a + (numT b).enc.length) ≤ 126 + 0
      rw [numT_len]; omega
    | jump a m => exact absurd rfl (hj (.jump a m) (mem_of_get hi) a m)
  rw [codeT_len]
  omega
/-! ### programs that are programs -/
/-- what is needed of a program for its code -/
structure Prg (rows : List Row) : Prop where
  ok : OkPrg 20 rows
  len : rows.length ≤ 600
  tl : tlen rows ≤ 200000
theorem Prg.trees {rows : List Row} (g : Prg rows) : ∀ r ∈ rows, ∀ t, r.tree = some t → t.enc.length ≤ 200000 := fun r hr t ht => by
  have h1 := rowLen_le hr
  have h2 : rowLen r = t.enc.length := by unfold rowLen; rw [ht]
  have := g.tl
  omega
theorem Prg.is {rows : List Row} (g : Prg rows) : isProgD (prgD rows) = true := by
  rw [isProg_is g.ok g.trees, decide_eq_true g.len, decide_eq_true g.tl]; rfl
theorem Prg.of {rows : List Row} (h : isProgD (prgD rows) = true) : Prg rows := by
  have ok := okPrg_isProg h
  have h : (decide ((rows.map Row.d).length ≤ 600) && (rowsD ((rows.map Row.d).length : Nat) 0 (rows.map Row.d) && decide (((rows.map Row.d).map setLen).sum ≤ 200000))) = true := h
  rw [Bool.and_eq_true, Bool.and_eq_true] at h
  have e1 : ((rows.map Row.d).map setLen).sum = tlen rows := by
    unfold tlen
    rw [List.map_map]
    congr 1
    exact List.map_congr_left fun r _ => setLen_rowLen r
  have h1 := of_decide_eq_true h.1
  have h2 := of_decide_eq_true h.2.2
  rw [List.length_map] at h1
  rw [e1] at h2
  exact ⟨ok, h1, h2⟩
theorem Prg.code {rows : List Row} (g : Prg rows) : (codeT rows).enc.length ≤ 1000000 := by
  have h := code_le20 g.ok
  have := g.len
  have := g.tl
  have : rows.length * (126 + 2 * rows.length) ≤ 600 * (126 + 2 * 600) := Nat.mul_le_mul g.len (by omega)
  omega
theorem Prg.reg {rows : List Row} (g : Prg rows) : ∀ r ∈ rows, r.reg ≤ 1000 ∧ r.rest.enc.length ≤ 1000000 := fun r hr => by
  have h1 := codeT_mem hr
  have h2 := rowT_len r
  have h3 := g.code
  obtain ⟨i, hi⟩ := List.mem_iff_getElem?.mp hr
  have := rest_le (g.ok i r hi) (List.getElem?_eq_some_iff.mp hi).1
  exact ⟨by omega, by omega⟩
/-! ### knowing -/
def clearR (a b : Nat) : List Row := (List.range (b + 1 - a)).map fun k => Row.set (a + k) .l
def openR : List Row := [.head 2 0, .tail 3 0, .set 4 oneT, .cons 4 4 2, .cons 4 1 4, .set 5 (rowT (.set 1 .l)), .cons 5 5 2, .set 6 (rowT (.cons 0 1 0)), .cons 5 6 5, .cons 5 4 5, .cons 0 5 3, .set 2 .l, .set 3 .l, .set 4 .l, .set 5 .l, .set 6 .l]
def startR (rows : List Row) : List Row := openR ++ rows
def preK (t : Tr) : List Row := [.set 1 t, .cons 0 1 0, .set 1 .l]
def knowR (rows : List Row) : List Row := preK (codeT (startR rows)) ++ startR rows
def KnowOk (rows : List Row) : Prop := Prg (startR rows) ∧ (codeT (startR rows)).enc.length ≤ 200000 ∧ Prg (knowR rows) ∧ (codeT (knowR rows)).enc.length ≤ 200000
theorem knowR_inj {p r : List Row} (h : knowR p = knowR r) : p = r := by
  have h := List.append_inj_right h rfl
  exact List.append_cancel_left h
theorem know_inj {p r : List Row} : knowR p = knowR r ↔ p = r := ⟨knowR_inj, fun h => by rw [h]⟩
theorem openR_ok : OkPrg 20 openR := okPrg_of (by decide)
theorem preK_ok (t : Tr) : OkPrg 20 (preK t) := okPrg_of rfl
theorem startR_ok {rows : List Row} (h : OkPrg 20 rows) : OkPrg 20 (startR rows) := okPrg_app openR_ok h
theorem knowR_ok {rows : List Row} (h : OkPrg 20 rows) : OkPrg 20 (knowR rows) := okPrg_app (preK_ok _) (startR_ok h)
theorem openR_tlen : tlen openR = 28 := by decide
theorem startR_tlen (rows : List Row) : tlen (startR rows) = 28 + tlen rows := by
  unfold startR
  rw [tlen_app, openR_tlen]
theorem knowR_tlen (rows : List Row) : tlen (knowR rows) = (codeT (startR rows)).enc.length + 29 + tlen rows := by
  unfold knowR
  rw [tlen_app, startR_tlen]
  have : tlen (preK (codeT (startR rows))) = (codeT (startR rows)).enc.length + 1 := by
    show (codeT (startR rows)).enc.length + (0 + (1 + 0)) = _
    omega
  omega
theorem startR_len (rows : List Row) : (startR rows).length = 16 + rows.length := by
  unfold startR; rw [List.length_append]; rfl
theorem knowR_len (rows : List Row) : (knowR rows).length = 19 + rows.length := by
  unfold knowR; rw [List.length_append, startR_len]; show 3 + _ = _; omega
theorem know_small {rows : List Row} (h : OkPrg 20 rows) (hl : rows.length ≤ 20) (ht : tlen rows ≤ 30000) : KnowOk rows := by
  have ok1 := startR_ok h
  have ok2 := knowR_ok h
  have l1 := startR_len rows
  have l2 := knowR_len rows
  have t1 := startR_tlen rows
  have t2 := knowR_tlen rows
  have c1 := code_le20 ok1
  have c2 := code_le20 ok2
  have m1 : (startR rows).length * (126 + 2 * (startR rows).length) ≤ 36 * (126 + 2 * 36) := Nat.mul_le_mul (by omega) (by omega)
  have m2 : (knowR rows).length * (126 + 2 * (knowR rows).length) ≤ 39 * (126 + 2 * 39) := Nat.mul_le_mul (by omega) (by omega)
  exact ⟨⟨ok1, by omega, by omega⟩, by omega, ⟨ok2, by omega, by omega⟩, by omega⟩
theorem jf_app {p r : List Row} (hp : jumpFree p) (hr : jumpFree r) : jumpFree (p ++ r) := fun x hx => (List.mem_append.mp hx).elim (hp x) (hr x)
theorem know_free {rows : List Row} (h : OkPrg 20 rows) (hj : jumpFree rows) (hl : rows.length ≤ 500) (ht : tlen rows ≤ 3000) : KnowOk rows := by
  have jo : jumpFree openR := by
    intro r hr a n e
    subst e
    have : (Row.jump a n) ∈ [Row.head 2 0, .tail 3 0, .set 4 oneT, .cons 4 4 2, .cons 4 1 4, .set 5 (rowT (.set 1 .l)), .cons 5 5 2, .set 6 (rowT (.cons 0 1 0)), .cons 5 6 5, .cons 5 4 5, .cons 0 5 3, .set 2 .l, .set 3 .l, .set 4 .l, .set 5 .l, .set 6 .l] := hr
    simp at this
  have jp : ∀ t, jumpFree (preK t) := fun t => by
    intro r hr a n e
    subst e
    have : (Row.jump a n) ∈ [Row.set 1 t, .cons 0 1 0, .set 1 .l] := hr
    simp at this
  have ok1 := startR_ok h
  have ok2 := knowR_ok h
  have l1 := startR_len rows
  have l2 := knowR_len rows
  have t1 := startR_tlen rows
  have t2 := knowR_tlen rows
  have c1 := code_free ok1 (jf_app jo hj)
  have c2 := code_free ok2 (jf_app (jp _) (jf_app jo hj))
  exact ⟨⟨ok1, by omega, by omega⟩, by omega, ⟨ok2, by omega, by omega⟩, by omega⟩
/-! ### slices; programs with a row changed or put in -/
theorem cutL_take {α : Type} {l : List α} {k : Nat} (h : k ≤ l.length) : cutL l none (some (k : Int)) = l.take k := by
  unfold cutL
  rw [HT.sIx_none, show HT.sIx l.length l.length (some ((k : Nat) : Int)) = k from by
    unfold HT.sIx
    simp only []
    rw [if_neg (by omega), Int.toNat_natCast]
    omega]
  simp
theorem cutL_drop {α : Type} {l : List α} {k : Nat} (h : k ≤ l.length) : cutL l (some (k : Int)) none = l.drop k := by
  unfold cutL
  rw [HT.sIx_none, show HT.sIx l.length 0 (some ((k : Nat) : Int)) = k from by
    unfold HT.sIx
    simp only []
    rw [if_neg (by omega), Int.toNat_natCast]
    omega]
  rw [List.take_of_length_le (by rw [List.length_drop]; omega)]
section
variable {qd : D → Prop} {e : Str → Prop}
theorem wo_slpt {rows : List Row} {k : Nat} (hk : k ≤ rows.length) (h : qd (prgX (rows.take k))) : (dSl (prgX rows) none (some (k : Int))).rn qd e := by
  refine wo_sll ?_
  rw [cutL_take (by rw [List.length_map]; exact hk), ← List.map_take]
  exact h
theorem wo_slpd {rows : List Row} {k : Nat} (hk : k ≤ rows.length) (h : qd (prgX (rows.drop k))) : (dSl (prgX rows) (some (k : Int)) none).rn qd e := by
  refine wo_sll ?_
  rw [cutL_drop (by rw [List.length_map]; exact hk), ← List.map_drop]
  exact h
end
theorem okRow_up {w n i : Nat} {r : Row} (h : OkRow w n i r) : OkRow w (n + 1) i r := by
  cases r with
  | jump a m => exact ⟨h.1, h.2.1, by have := h.2.2; omega⟩
  | _ => exact h
theorem okRow_on {w n i : Nat} {r : Row} (h : OkRow w n i r) : OkRow w (n + 1) (i + 1) r := by
  cases r with
  | jump a m => exact ⟨h.1, by have := h.2.1; omega, by have := h.2.2; omega⟩
  | _ => exact h
theorem okPrg_ins {w k : Nat} {rows : List Row} {r : Row} (h : OkPrg w rows) (hk : k ≤ rows.length) (hr : OkRow w (rows.length + 1) k r) : OkPrg w (rows.take k ++ [r] ++ rows.drop k) := fun i s hs => by
  have hl : (rows.take k ++ [r] ++ rows.drop k).length = rows.length + 1 := by
    rw [List.length_append, List.length_append, List.length_take, List.length_drop, List.length_singleton]; omega
  have ht : (rows.take k).length = k := by rw [List.length_take]; omega
  rw [hl]
  by_cases h1 : i < k
  · rw [List.append_assoc, List.getElem?_append_left (by omega), List.getElem?_take_of_lt h1] at hs
    exact okRow_up (h i s hs)
  · by_cases h2 : i = k
    · subst h2
      rw [List.append_assoc, List.getElem?_append_right (by omega), ht, Nat.sub_self] at hs
      have : r = s := by simpa using hs
      rw [← this]; exact hr
    · obtain ⟨j, rfl⟩ : ∃ j, i = j + 1 := ⟨i - 1, by omega⟩
      rw [List.getElem?_append_right (by rw [List.length_append, ht, List.length_singleton]; omega), List.getElem?_drop, List.length_append, ht, List.length_singleton, show k + (j + 1 - (k + 1)) = j by omega] at hs
      exact okRow_on (h j s hs)
theorem set_parts {rows : List Row} {k : Nat} {r : Row} (hk : k < rows.length) : rows.take k ++ [r] ++ rows.drop (k + 1) = rows.set k r := by
  rw [List.set_eq_take_append_cons_drop, if_pos hk, List.append_assoc]; rfl
end NV

set_option Elab.async false
set_option linter.all false
set_option maxRecDepth 100000
set_option maxHeartbeats 4000000
/-! # where a text stands in a text -/
namespace NV
open PySem PySem.Spec PyProof.Rows L2 PySem.StrLaws
open PySem.Builtin.Str (lastOccurrence occurrences subAt)
def AtS (x y : Str) (i : Nat) : Prop := i + y.length ≤ x.length ∧ subAt x y i = true
def lastBody (s sub : Str) (hi : Nat) (i : Nat) (st : Option Nat) : Id (ForInStep (Option Nat)) :=
  if i + sub.length ≤ hi ∧ subAt s sub i = true then pure (ForInStep.yield (some i)) else pure (ForInStep.yield st)
theorem last_eq (s sub : Str) (lo hi : Nat) : lastOccurrence s sub lo hi = (forIn (List.range' lo (hi + 1 - lo)) none (lastBody s sub hi)).run := by
  unfold lastOccurrence lastBody
  simp
theorem last_go (s sub : Str) (hi : Nat) : ∀ (l : List Nat) (st : Option Nat),
    ((∀ i ∈ l, ¬ (i + sub.length ≤ hi ∧ subAt s sub i = true)) ∧ (forIn l st (lastBody s sub hi)).run = st) ∨
    ∃ l1 i l2, l = l1 ++ i :: l2 ∧ (i + sub.length ≤ hi ∧ subAt s sub i = true) ∧ (∀ j ∈ l2, ¬ (j + sub.length ≤ hi ∧ subAt s sub j = true)) ∧ (forIn l st (lastBody s sub hi)).run = some i
  | [], st => .inl ⟨(fun i h => nomatch h), rfl⟩
  | a :: l, st => by
    rw [List.forIn_cons]
    unfold lastBody
    by_cases hc : a + sub.length ≤ hi ∧ subAt s sub a = true
    · rw [if_pos hc]
      rcases last_go s sub hi l (some a) with ⟨h1, h2⟩ | ⟨l1, i, l2, h1, h2, h3, h4⟩
      · exact .inr ⟨[], a, l, rfl, hc, h1, h2⟩
      · exact .inr ⟨a :: l1, i, l2, by rw [h1]; rfl, h2, h3, h4⟩
    · rw [if_neg hc]
      rcases last_go s sub hi l st with ⟨h1, h2⟩ | ⟨l1, i, l2, h1, h2, h3, h4⟩
      · refine .inl ⟨fun i h => ?_, h2⟩
        rcases List.mem_cons.mp h with rfl | h
        · exact hc
        · exact h1 i h
      · exact .inr ⟨a :: l1, i, l2, by rw [h1]; rfl, h2, h3, h4⟩
theorem last_none {x y : Str} (h : ∀ i, ¬ AtS x y i) : Txt.rfind x y = -1 := by
  have e : lastOccurrence x y 0 x.length = none := by
    rw [last_eq]
    rcases last_go x y x.length (List.range' 0 (x.length + 1 - 0)) none with ⟨_, h2⟩ | ⟨_, i, _, _, h2, _⟩
    · exact h2
    · exact absurd h2 (h i)
  unfold Txt.rfind
  rw [e]
theorem last_some {x y : Str} {i : Nat} (h : AtS x y i) (hj : ∀ j, i < j → ¬ AtS x y j) : Txt.rfind x y = (i : Int) := by
  have hm : ∀ j, AtS x y j → j ∈ List.range' 0 (x.length + 1 - 0) := fun j h => by
    have := h.1
    simp [List.mem_range']
    omega
  have e : lastOccurrence x y 0 x.length = some i := by
    rw [last_eq]
    rcases last_go x y x.length (List.range' 0 (x.length + 1 - 0)) none with ⟨h1, _⟩ | ⟨l1, k, l2, h1, h2, h3, h4⟩
    · exact absurd h (h1 i (hm i h))
    · have hp : (List.range' 0 (x.length + 1 - 0)).Pairwise (· < ·) := List.pairwise_lt_range' ..
      have hmi := hm i h
      rw [h1] at hp hmi
      obtain ⟨_, p2, p3⟩ := List.pairwise_append.mp hp
      rw [h4]
      congr 1
      rcases List.mem_append.mp hmi with q | q
      · have := p3 i q k List.mem_cons_self
        exact absurd h2 (hj k this)
      · rcases List.mem_cons.mp q with q | q
        · exact q.symm
        · exact absurd h (h3 i q)
  unfold Txt.rfind
  rw [e]
/-! ### texts of one and of two signs -/
theorem at_one {l : List Nat} {c i : Nat} : AtS (S l) (S [c]) i ↔ l[i]? = some c := subAt_one (S l) c i
theorem at_two {l : List Nat} {c d i : Nat} : AtS (S l) (S [c, d]) i ↔ (l[i]? = some c ∧ l[i + 1]? = some d) := by
  unfold AtS
  rw [subAt_eq]
  have e1 : (S l).cps.toList = l := by simp [S]
  have e2 : (S [c, d]).cps.toList = [c, d] := rfl
  have e3 : (S [c, d]).length = 2 := rfl
  have e4 : l[i]? = (l.drop i)[0]? := by rw [List.getElem?_drop]; rfl
  have e5 : l[i + 1]? = (l.drop i)[1]? := by rw [List.getElem?_drop]
  rw [e1, e2, e3, S_len, e4, e5, beq_iff_eq]
  have e6 : (l.drop i).length = l.length - i := List.length_drop
  constructor
  · rintro ⟨h1, h2⟩
    cases h : l.drop i with
    | nil => rw [h] at h2; cases h2
    | cons a r =>
      rw [h] at h2
      cases r with
      | nil => simp at h2
      | cons b r =>
        simp at h2
        simp [h2]
  · rintro ⟨h1, h2⟩
    cases h : l.drop i with
    | nil => rw [h] at h1; simp at h1
    | cons a r =>
      rw [h] at h1 h2 e6
      cases r with
      | nil => simp at h2
      | cons b r =>
        simp at h1 h2 e6
        subst h1 h2
        exact ⟨by omega, by simp⟩
theorem count_go (c : Nat) (l : List Nat) : ∀ (suf pre : List Nat) (found : Array Nat) (free : Nat), l = pre ++ suf → free ≤ pre.length → found.size ≤ pre.length →
    (forIn (List.range' pre.length (suf.length + 1)) (found, free) (occBody (S l) (S [c]) l.length (l.length + 1))).run.fst.size = found.size + suf.count c
  | [], pre, found, free, hl, h1, h2 => by
    have : ¬ AtS (S l) (S [c]) pre.length := fun h => by
      rw [at_one, hl, List.append_nil, List.getElem?_eq_none (Nat.le_refl _)] at h; cases h
    rw [show List.range' pre.length (([] : List Nat).length + 1) = [pre.length] from rfl, List.forIn_cons]
    unfold occBody
    rw [if_neg fun h => this ⟨by rw [S_len]; exact h.1.2, h.2⟩]
    rfl
  | a :: suf, pre, found, free, hl, h1, h2 => by
    have e : List.range' pre.length ((a :: suf).length + 1) = pre.length :: List.range' (pre ++ [a]).length (suf.length + 1) := by
      rw [List.length_append, List.length_singleton]; rfl
    have hg : l[pre.length]? = some a := by rw [hl]; simp
    have hl' : l = (pre ++ [a]) ++ suf := by rw [hl, List.append_assoc]; rfl
    have hlen : l.length = pre.length + suf.length + 1 := by rw [hl, List.length_append, List.length_cons]; omega
    rw [e, List.forIn_cons]
    unfold occBody
    by_cases hc : a = c
    · subst hc
      have at_ : AtS (S l) (S [a]) pre.length := at_one.mpr hg
      rw [if_pos ⟨⟨⟨by show found.size < _; omega, h1⟩, by have := at_.1; rw [S_len] at this; exact this⟩, at_.2⟩]
      have ih := count_go a l suf (pre ++ [a]) (found.push pre.length) (pre.length + 1) hl' (by rw [List.length_append]; exact Nat.le_refl _) (by rw [Array.size_push, List.length_append, List.length_singleton]; omega)
      rw [Array.size_push] at ih
      rw [List.count_cons_self]
      have e2 : pre.length + (S [a]).length = pre.length + 1 := rfl
      rw [e2]
      show (forIn _ _ (occBody (S l) (S [a]) l.length (l.length + 1))).run.fst.size = _
      rw [ih]; omega
    · have : ¬ AtS (S l) (S [c]) pre.length := fun h => by rw [at_one, hg] at h; exact hc (Option.some.inj h)
      rw [if_neg fun h => this ⟨by rw [S_len]; exact h.1.2, h.2⟩]
      have ih := count_go c l suf (pre ++ [a]) found free hl' (by rw [List.length_append]; omega) (by rw [List.length_append]; omega)
      rw [List.count_cons_of_ne (fun z => hc z)]
      exact ih
theorem count_one (l : List Nat) (c : Nat) : Txt.count (S l) (S [c]) = (l.count c : Nat) := by
  unfold Txt.count
  rw [occ_eq]
  have h := count_go c l l [] #[] 0 rfl (Nat.le_refl _) (Nat.le_refl _)
  rw [S_len, Array.length_toList]
  have e : l.length + 1 - 0 = l.length + 1 := rfl
  rw [e]
  have h' : (forIn (List.range' 0 (l.length + 1)) (#[], 0) (occBody (S l) (S [c]) l.length (l.length + 1))).run.fst.size = (#[] : Array Nat).size + l.count c := h
  rw [h']
  show ((0 + l.count c : Nat) : Int) = _
  rw [Nat.zero_add]
/-! ### a text of two signs in a text -/
def subB (a b : List Nat) : Bool := !(occurrences (S b) (S a) 0 (S b).length 1).isEmpty
def dInS : D → D → W D
  | .str a, .str b => .ok (.bl (subB a b))
  | _, _ => .stuck
def dNotInS : D → D → W D
  | .str a, .str b => .ok (.bl (!subB a b))
  | _, _ => .stuck
theorem subB_iff {l : List Nat} {c d : Nat} : subB [c, d] l = true ↔ ∃ i, l[i]? = some c ∧ l[i + 1]? = some d := by
  have h := found_iff (S l) (S [c, d])
  constructor
  · intro k
    obtain ⟨i, hi⟩ := h.mp k
    exact ⟨i, at_two.mp hi⟩
  · rintro ⟨i, hi⟩
    exact h.mpr ⟨i, at_two.mpr hi⟩
section
variable {K : PySem.W.Frag} {m : Md}
theorem rd_ins : RD K m (fun x y H Q => ∃ i j, x = .str i ∧ y = .str j ∧ Q (.bl (!(occurrences j i 0 j.length 1).isEmpty)) H) dInS := by
  intro M H x y v w Q e mk hx hy h
  cases x <;> cases y <;> first | (exact False.elim h) | skip
  cases hx.val (fun _ q => nomatch q); cases hy.val (fun _ q => nomatch q)
  exact ⟨_, _, rfl, rfl, Post.bl h⟩
theorem rd_nins : RD K m (fun x y H Q => ∃ i j, x = .str i ∧ y = .str j ∧ Q (.bl (!(!(occurrences j i 0 j.length 1).isEmpty))) H) dNotInS := by
  intro M H x y v w Q e mk hx hy h
  cases x <;> cases y <;> first | (exact False.elim h) | skip
  cases hx.val (fun _ q => nomatch q); cases hy.val (fun _ q => nomatch q)
  exact ⟨_, _, rfl, rfl, Post.bl h⟩
end
section
variable {qd : D → Prop} {e : Str → Prop}
theorem wo_ins {a b : List Nat} (h : qd (.bl (subB a b))) : (dInS (.str a) (.str b)).rn qd e := h
theorem wo_nins {a b : List Nat} (h : qd (.bl (!subB a b))) : (dNotInS (.str a) (.str b)).rn qd e := h
end
end NV

set_option Elab.async false
set_option linter.all false
set_option maxRecDepth 100000
set_option maxHeartbeats 4000000
/-! # trees in order -/
namespace NV
open PySem PySem.Spec PyProof.Rows L2
/-- in how many ways m missing trees are written with p pairs together -/
def endN : Nat → Nat → Nat
  | 0 => fun _ => 1
  | p + 1 => fun m => Nat.rec 0 (fun k r => r + endN p (k + 2)) m
theorem endN0 (m : Nat) : endN 0 m = 1 := rfl
theorem endNz (p : Nat) : endN (p + 1) 0 = 0 := rfl
theorem endNs (p m : Nat) : endN (p + 1) (m + 1) = endN (p + 1) m + endN p (m + 2) := rfl
/-- the words before a word, p pairs and m trees being missing -/
def rkS : Nat → Nat → List Nat → Nat
  | _, _, [] => 0
  | p, m, c :: w => if c = 49 then endN p (m - 1) + rkS (p - 1) (m + 1) w else rkS p (m - 1) w
theorem rkS_one (p m : Nat) (w : List Nat) : rkS p m (49 :: w) = endN p (m - 1) + rkS (p - 1) (m + 1) w := rfl
theorem rkS_zero (p m : Nat) (w : List Nat) : rkS p m (48 :: w) = rkS p (m - 1) w := rfl
theorem rkS_zeros (p : Nat) : ∀ (n m : Nat) (w : List Nat), rkS p m (List.replicate n 48 ++ w) = rkS p (m - n) w
  | 0, m, w => rfl
  | n + 1, m, w => by
    rw [List.replicate_succ, List.cons_append, rkS_zero, rkS_zeros p n, Nat.sub_sub, Nat.add_comm 1 n]
/-- the last word -/
theorem rkS_last : ∀ (p m : Nat), (1 ≤ m ∨ p = 0) → ∀ l, rkS p m (List.replicate p 49 ++ List.replicate l 48) + 1 = endN p m
  | 0, m, _, l => by
    have h := rkS_zeros 0 l m []
    rw [List.append_nil] at h
    show rkS 0 m ([] ++ List.replicate l 48) + 1 = 1
    rw [List.nil_append, h]; rfl
  | p + 1, m, h, l => by
    obtain ⟨j, rfl⟩ : ∃ j, m = j + 1 := ⟨m - 1, by omega⟩
    have ih := rkS_last p (j + 2) (.inl (by omega)) l
    rw [List.replicate_succ, List.cons_append, rkS_one, endNs]
    show endN (p + 1) j + rkS p (j + 2) (List.replicate p 49 ++ List.replicate l 48) + 1 = endN (p + 1) j + endN p (j + 2)
    omega
/-- the first word -/
theorem rkS_tens : ∀ (p : Nat), rkS p 1 ((List.replicate p [49, 48]).flatten ++ [48]) = 0
  | 0 => rfl
  | p + 1 => by
    rw [List.replicate_succ, List.flatten_cons, List.append_assoc]
    show rkS (p + 1) 1 (49 :: 48 :: ((List.replicate p [49, 48]).flatten ++ [48])) = 0
    rw [rkS_one, rkS_zero]
    rw [Nat.sub_self, endNz]
    exact (Nat.zero_add _).trans (rkS_tens p)
def firstW (p m : Nat) : List Nat := List.replicate (m - 1) 48 ++ ((List.replicate p [49, 48]).flatten ++ [48])
theorem rkS_first {p m : Nat} (h : 1 ≤ m) : rkS p m (firstW p m) = 0 := by
  unfold firstW
  rw [rkS_zeros, show m - (m - 1) = 1 by omega]
  exact rkS_tens p
/-! ### words, how many trees are missing behind them -/
def ones (w : List Nat) : Nat := w.count 49
theorem ones_app (a b : List Nat) : ones (a ++ b) = ones a + ones b := List.count_append
theorem ones_1 (w : List Nat) : ones (49 :: w) = ones w + 1 := List.count_cons_self
theorem ones_0 (w : List Nat) : ones (48 :: w) = ones w := List.count_cons_of_ne (by decide)
theorem rkS_app : ∀ (a : List Nat) (p m m' : Nat) (w : List Nat), scan m a = some m' → ones a ≤ p → rkS p m (a ++ w) = rkS p m a + rkS (p - ones a) m' w
  | [], p, m, m', w, h, _ => by
    have h : some m = some m' := h
    cases h
    show rkS p m w = 0 + rkS (p - 0) m w
    rw [Nat.zero_add]; rfl
  | c :: a, p, m, m', w, h, ho => by
    cases m with
    | zero => cases h
    | succ m =>
      have h' : scan (m + 1) (c :: a) = some m' := h
      unfold scan at h'
      by_cases hc : c = 49
      · subst hc
        rw [if_pos rfl] at h'
        rw [ones_1] at ho ⊢
        have ih := rkS_app a (p - 1) (m + 2) m' w h' (by omega)
        rw [List.cons_append, rkS_one, rkS_one, ih, show p - 1 - ones a = p - (ones a + 1) by omega, Nat.add_assoc]
      · rw [if_neg hc] at h'
        by_cases h0 : c = 48
        · subst h0
          rw [if_pos rfl] at h'
          rw [ones_0] at ho ⊢
          have ih := rkS_app a p m m' w h' ho
          rw [List.cons_append, rkS_zero, rkS_zero]
          exact ih
        · rw [if_neg h0] at h'; cases h'
theorem ones_enc : ∀ t : Tr, ones t.enc = t.pairs
  | .l => rfl
  | .n a b => by
    show ones (49 :: (a.enc ++ b.enc)) = a.pairs + b.pairs + 1
    rw [ones_1, ones_app, ones_enc a, ones_enc b]
theorem scan_zeros : ∀ (n m : Nat) (w : List Nat), scan (m + n) (List.replicate n 48 ++ w) = scan m w
  | 0, m, w => rfl
  | n + 1, m, w => by
    rw [List.replicate_succ, List.cons_append, show m + (n + 1) = m + n + 1 by omega, scan_leaf]
    exact scan_zeros n m w
theorem scan_tens : ∀ (p : Nat), scan 1 ((List.replicate p [49, 48]).flatten ++ [48]) = some 0
  | 0 => rfl
  | p + 1 => by
    rw [List.replicate_succ, List.flatten_cons, List.append_assoc]
    show scan (0 + 1) (49 :: 48 :: ((List.replicate p [49, 48]).flatten ++ [48])) = some 0
    rw [scan_one, scan_leaf]
    exact scan_tens p
theorem scan_first {p m : Nat} (h : 1 ≤ m) : scan m (firstW p m) = some 0 := by
  unfold firstW
  have := scan_zeros (m - 1) 1 ((List.replicate p [49, 48]).flatten ++ [48])
  rw [show 1 + (m - 1) = m by omega] at this
  rw [this]
  exact scan_tens p
theorem ones_tens : ∀ (p : Nat), ones ((List.replicate p [49, 48]).flatten ++ [48]) = p
  | 0 => rfl
  | p + 1 => by
    rw [List.replicate_succ, List.flatten_cons, List.append_assoc]
    show ones (49 :: 48 :: ((List.replicate p [49, 48]).flatten ++ [48])) = p + 1
    rw [ones_1, ones_0, ones_tens p]
theorem ones_zeros (n : Nat) : ones (List.replicate n 48) = 0 := by
  unfold ones
  rw [List.count_replicate]; rfl
theorem ones_first (p m : Nat) : ones (firstW p m) = p := by
  unfold firstW
  rw [ones_app, ones_zeros, ones_tens, Nat.zero_add]
theorem ones_ones (k l : Nat) : ones (List.replicate k 49 ++ List.replicate l 48) = k := by
  rw [ones_app, ones_zeros]
  unfold ones
  rw [List.count_replicate_self]; rfl
theorem scan_signs : ∀ {w : List Nat} {m k : Nat}, scan m w = some k → ∀ c ∈ w, c = 48 ∨ c = 49
  | c :: w, 0, k, h, x, hx => by cases h
  | c :: w, m + 1, k, h, x, hx => by
    have h : (if c = 49 then scan (m + 2) w else if c = 48 then scan m w else none) = some k := h
    by_cases h1 : c = 49
    · rw [if_pos h1] at h
      rcases List.mem_cons.mp hx with e | hx
      · exact .inr (e.trans h1)
      · exact scan_signs h x hx
    · rw [if_neg h1] at h
      by_cases h0 : c = 48
      · rw [if_pos h0] at h
        rcases List.mem_cons.mp hx with e | hx
        · exact .inl (e.trans h0)
        · exact scan_signs h x hx
      · rw [if_neg h0] at h; cases h
def no01 (w : List Nat) : Prop := ∀ i, ¬ (w[i]? = some 48 ∧ w[i + 1]? = some 49)
theorem no01_shape : ∀ {w : List Nat}, (∀ c ∈ w, c = 48 ∨ c = 49) → no01 w → ∃ k l, w = List.replicate k 49 ++ List.replicate l 48
  | [], _, _ => ⟨0, 0, rfl⟩
  | c :: w, h, n => by
    obtain ⟨k, l, e⟩ := no01_shape (w := w) (fun x hx => h x (List.mem_cons_of_mem _ hx)) fun i hi => n (i + 1) (by simpa using hi)
    rcases h c List.mem_cons_self with hc | hc
    · subst hc
      cases k with
      | zero => exact ⟨0, l + 1, by rw [e, List.replicate_succ]; rfl⟩
      | succ k => exact absurd ⟨rfl, by rw [e, List.replicate_succ]; rfl⟩ (n 0)
    · subst hc
      exact ⟨k + 1, l, by rw [e, List.replicate_succ]; rfl⟩
/-- the next tree of the same size -/
theorem next_rank {t : Tr} {a b : List Nat} (h : t.enc = a ++ 48 :: 49 :: b) (no : no01 (49 :: b)) : ∃ m k, scan 1 a = some (m + 1) ∧ 1 ≤ m ∧ ones a + k = t.pairs ∧ 1 ≤ k ∧
    ∃ t' : Tr, t'.enc = a ++ 49 :: firstW (k - 1) (m + 2) ∧ t'.pairs = t.pairs ∧ rkS t.pairs 1 t'.enc = rkS t.pairs 1 t.enc + 1 := by
  have hs := scan_enc1 t
  rw [h, scan_append] at hs
  cases hm : scan 1 a with
  | none => rw [hm] at hs; cases hs
  | some m1 =>
    rw [hm] at hs
    have hs : scan m1 (48 :: 49 :: b) = some 0 := hs
    obtain ⟨m, rfl⟩ : ∃ m, m1 = m + 1 := by
      cases m1 with
      | zero => cases hs
      | succ m => exact ⟨m, rfl⟩
    rw [scan_leaf] at hs
    have hm1 : 1 ≤ m := by
      cases m with
      | zero => cases hs
      | succ m => omega
    obtain ⟨k, l, e⟩ := no01_shape (scan_signs hs) no
    have hk : 1 ≤ k := by
      cases k with
      | zero =>
        cases l with
        | zero => cases e
        | succ l => rw [List.replicate_succ] at e; cases e
      | succ k => omega
    have ho : ones a + k = t.pairs := by
      have := ones_enc t
      rw [h, ones_app, ones_0, e, ones_ones] at this
      exact this
    have sc : scan 1 (a ++ 49 :: firstW (k - 1) (m + 2)) = some 0 := by
      rw [scan_append, hm]
      show scan (m + 1) (49 :: firstW (k - 1) (m + 2)) = some 0
      rw [scan_one]
      exact scan_first (by omega)
    obtain ⟨t', ht'⟩ := scan_tree sc
    have hp' : t'.pairs = t.pairs := by
      rw [← ones_enc, ← ht', ones_app, ones_1, ones_first]; omega
    refine ⟨m, k, rfl, hm1, ho, hk, t', ht'.symm, hp', ?_⟩
    rw [← ht', h, rkS_app a _ 1 (m + 1) _ hm (by omega), rkS_app a _ 1 (m + 1) _ hm (by omega), show t.pairs - ones a = k by omega]
    rw [rkS_one, rkS_zero, e]
    have e1 := rkS_last k m (.inl hm1) l
    have e2 := rkS_first (p := k - 1) (m := m + 2) (by omega)
    show _ + (endN k m + rkS (k - 1) (m + 2) (firstW (k - 1) (m + 2))) = _ + rkS k m _ + 1
    rw [e2]
    omega
/-- the last tree of its size -/
theorem last_rank {t : Tr} (no : no01 t.enc) : rkS t.pairs 1 t.enc + 1 = endN t.pairs 1 ∧ t.enc = List.replicate t.pairs 49 ++ List.replicate (t.pairs + 1) 48 := by
  obtain ⟨k, l, e⟩ := no01_shape (scan_signs (scan_enc1 t)) no
  have hk : k = t.pairs := by
    have := ones_enc t
    rw [e, ones_ones] at this
    exact this
  have hl : l = t.pairs + 1 := by
    have := congrArg List.length e
    rw [t.enc_len, List.length_append, List.length_replicate, List.length_replicate] at this
    omega
  subst hk hl
  exact ⟨by rw [e]; exact rkS_last _ 1 (.inl (by omega)) _, e⟩
def catN (n : Nat) : Nat := ((List.range n).map fun j => endN j 1).sum
def rankT (t : Tr) : Nat := catN t.pairs + rkS t.pairs 1 t.enc
theorem catN_succ (n : Nat) : catN (n + 1) = catN n + endN n 1 := by
  unfold catN
  rw [List.range_succ, List.map_append, List.sum_append]; simp
theorem rank_numT (n : Nat) : rankT (numT n) = catN n := by
  unfold rankT
  have hp : (numT n).pairs = n := by
    have h := (numT n).enc_len
    rw [numT_len] at h
    omega
  rw [hp, numT_enc]
  have := rkS_tens n
  show catN n + rkS n 1 ((List.replicate n [49, 48]).flatten ++ [48]) = _
  rw [this]; rfl
theorem find01 (w : List Nat) : (no01 w ∧ Txt.rfind (S w) (S [48, 49]) = -1) ∨ ∃ a b, w = a ++ 48 :: 49 :: b ∧ no01 (49 :: b) ∧ Txt.rfind (S w) (S [48, 49]) = (a.length : Nat) := by
  by_cases hn : no01 w
  · exact .inl ⟨hn, last_none fun i h => hn i (at_two.mp h)⟩
  · refine .inr ?_
    have hex : ∃ i, (w[i]? = some 48 ∧ w[i + 1]? = some 49) ∧ ∀ j, i < j → ¬ (w[j]? = some 48 ∧ w[j + 1]? = some 49) := by
      refine Classical.byContradiction fun hc => hn ?_
      have key : ∀ d i, w.length ≤ i + d → ¬ (w[i]? = some 48 ∧ w[i + 1]? = some 49) := by
        intro d
        induction d with
        | zero => intro i hi h; rw [List.getElem?_eq_none (by omega)] at h; cases h.1
        | succ d ih => intro i hi h; exact hc ⟨i, h, fun j hj => ih j (by omega)⟩
      exact fun i => key w.length i (by omega)
    obtain ⟨i, hi, hj⟩ := hex
    have hl : i + 1 < w.length := (List.getElem?_eq_some_iff.mp hi.2).1
    have hd : w.drop i = 48 :: 49 :: w.drop (i + 2) := by
      rw [List.drop_eq_getElem_cons (by omega), List.drop_eq_getElem_cons hl]
      have h1 := (List.getElem?_eq_some_iff.mp hi.1).2
      have h2 := (List.getElem?_eq_some_iff.mp hi.2).2
      rw [h1, h2]
    refine ⟨w.take i, w.drop (i + 2), by rw [← hd, List.take_append_drop], fun j hh => ?_, ?_⟩
    · have e1 : (49 :: w.drop (i + 2)) = w.drop (i + 1) := by
        rw [List.drop_eq_getElem_cons hl, (List.getElem?_eq_some_iff.mp hi.2).2]
      rw [e1, List.getElem?_drop, List.getElem?_drop] at hh
      exact hj (i + 1 + j) (by omega) ⟨hh.1, by rw [← hh.2, Nat.add_assoc]⟩
    · rw [List.length_take, show min i w.length = i by omega]
      exact last_some (at_two.mpr hi) fun j h hh => hj j h (at_two.mp hh)
/-- the next tree of the same size -/
def NextT (t t' : Tr) : Prop := t'.pairs = t.pairs ∧ rkS t.pairs 1 t'.enc = rkS t.pairs 1 t.enc + 1 ∧ ∃ a b m k, t.enc = a ++ 48 :: 49 :: b ∧ no01 (49 :: b) ∧ scan 1 a = some (m + 1) ∧ 1 ≤ m ∧ ones a + k = t.pairs ∧ 1 ≤ k ∧ t'.enc = a ++ 49 :: firstW (k - 1) (m + 2) ∧ Txt.rfind (S t.enc) (S [48, 49]) = (a.length : Nat)
theorem next_cases (t : Tr) : (no01 t.enc ∧ Txt.rfind (S t.enc) (S [48, 49]) = -1) ∨ ∃ t', NextT t t' := by
  rcases find01 t.enc with h | ⟨a, b, h1, h2, h3⟩
  · exact .inl h
  · obtain ⟨m, k, g1, g2, g3, g4, t', g5, g6, g7⟩ := next_rank h1 h2
    exact .inr ⟨t', g6, g7, a, b, m, k, h1, h2, g1, g2, g3, g4, g5, h3⟩
theorem next_uniq {t t' s : Tr} (h : NextT t t') (g : NextT t s) : t' = s := by
  obtain ⟨_, _, a, b, m, k, e1, e2, e3, e4, e5, e6, e7, e8⟩ := h
  obtain ⟨_, _, a', b', m', k', f1, f2, f3, f4, f5, f6, f7, f8⟩ := g
  have hl : a.length = a'.length := by rw [e8] at f8; omega
  have ha : a = a' := (List.append_inj (e1.symm.trans f1) hl).1
  subst ha
  have hm : m = m' := by rw [e3] at f3; injection f3 with f3; omega
  have hk : k = k' := by omega
  subst hm hk
  exact enc_inj1 (e7.trans f7.symm)
theorem scan_len : ∀ {w : List Nat} {m k : Nat}, scan m w = some k → m + 2 * ones w = k + w.length
  | [], m, k, h => by
    have h : some m = some k := by rw [← scan_nil]; exact h
    cases h; rfl
  | c :: w, 0, k, h => by cases h
  | c :: w, m + 1, k, h => by
    have h : (if c = 49 then scan (m + 2) w else if c = 48 then scan m w else none) = some k := h
    by_cases h1 : c = 49
    · rw [if_pos h1] at h
      subst h1
      have := scan_len (w := w) (m := m + 2) h
      have := ones_1 w
      rw [List.length_cons]
      omega
    · rw [if_neg h1] at h
      by_cases h0 : c = 48
      · rw [if_pos h0] at h
        subst h0
        have := scan_len (w := w) (m := m) h
        have := ones_0 w
        rw [List.length_cons]
        omega
      · rw [if_neg h0] at h; cases h
end NV

set_option Elab.async false
set_option linter.all false
set_option maxRecDepth 100000
set_option maxHeartbeats 4000000
/-! # str(..), int(text), split -/
namespace NV
open PySem PySem.Spec PyProof.Rows L2
open Evl (Ex)
/-- the signs of a whole number -/
def intL (i : Int) : List Nat := if i < 0 then 45 :: TL.numL i.natAbs else TL.numL i.natAbs
theorem str_int (i : Int) : Str.ofString (toString i) = S (intL i) := by
  unfold intL
  by_cases h : i < 0
  · rw [if_pos h]
    refine TL.ext_tl ?_
    rw [TL.tl_ofString]
    obtain ⟨n, rfl⟩ : ∃ n : Nat, i = Int.negSucc n := by
      cases i with
      | ofNat n => exact absurd h (by simp)
      | negSucc n => exact ⟨n, rfl⟩
    have e : toString (Int.negSucc n) = "-" ++ toString (n + 1) := rfl
    rw [e, String.toList_append, List.map_append]
    have e2 := TL.tl_num (n + 1)
    rw [TL.tl_ofString] at e2
    have e3 : toString (((n + 1 : Nat)) : Int) = toString (n + 1) := rfl
    rw [e3] at e2
    rw [e2]
    rfl
  · rw [if_neg h]
    have e : i = ((i.natAbs : Nat) : Int) := by omega
    have z := SX.num_S i.natAbs
    rw [← e] at z
    exact z
def rStrA : List V → Hp → VK → Prop := fun vs H Q => (∃ i, vs = [.int i] ∧ i.natAbs.log2 < 1920 ∧ Q (.str (S (intL i))) H) ∨ ∃ a, vs = [.str a] ∧ Q (.str a) H
theorem cStr {X : Cx} : CallR X (.type "str") rStrA := by
  intro pins s σ H xs us Q I r h
  rcases h with ⟨i, e, h1, h2⟩ | h
  · exact call_str_int pins s σ H xs us Q I r ⟨i, e, h1, by
      have z := str_int i
      show Q (.str (Str.ofString (toString i))) H
      rw [z]; exact h2⟩
  · exact SkE.call_str_str pins s σ H xs us Q I r h
def dStr : D → W D
  | .int i => .chk (i.natAbs.log2 < 1920) (.ok (.str (intL i)))
  | .str l => .ok (.str l)
  | _ => .stuck
def dSplit : D → D → W D
  | .str a, .str b => .chk (b ≠ [] ∧ b.all (· < 256) = true ∧ a.length + 2 ≤ 16777216) (.ok (.lst ((TL.spl b 0 [] a).map D.str)))
  | _, _ => .stuck
def fSplit (fo fe : Env → W D) : Env → W D := fun ρ => (fo ρ).bind fun
  | .str a => (fe ρ).bind fun y => dSplit (.str a) y
  | _ => .stuck
section
variable {K : PySem.W.Frag} {mg : Str → Option Value} {Eo : XK} {own : List Nat} {m : Md}
theorem rc_str : RC1 K m rStrA dStr := by
  intro M H x v Q e mk hx h
  cases x <;> first | (exact False.elim h) | skip
  · cases hx.val (fun _ q => nomatch q)
    exact .inl ⟨_, rfl, h.1, Post.str h.2⟩
  · cases hx.val (fun _ q => nomatch q)
    exact .inr ⟨_, rfl, Post.str h⟩
theorem pd_split {to te : TE} {fo fe : Env → W D} (ho : PD K mg Eo own .s to fo) (he : PD K mg Eo own .s te fe) : PD K mg Eo own m (tM1 (fun x xs H Q => ∃ a b, x = .str a ∧ xs = [.str b] ∧ (b.length == 0) = false ∧ a.length + 2 ≤ sizeLine ∧ rNewStrs (Txt.split a b) H Q) to te) (fSplit fo fe) := fun M ρ σ H Q mk E h =>
  ho M ρ σ H _ mk E ((fo ρ).mono (fun x p v H1 e1 r1 => by
    cases x with
    | str a =>
      cases r1.val (fun _ q => nomatch q)
      refine ⟨⟨S a, rfl⟩, he M ρ σ H1 _ (mk.ex e1) (E.ex e1) ((fe ρ).mono (fun y p w H2 e2 r2 => ?_) (fun n z => z.mono e1) p)⟩
      cases y <;> first | (exact False.elim p) | skip
      rename_i b
      cases r2.val (fun _ q => nomatch q)
      obtain ⟨⟨h1, h2, h3⟩, p⟩ := p
      refine ⟨S a, S b, rfl, rfl, ?_, h3, fun q np => ?_⟩
      · show (b.length == 0) = false
        cases b with
        | nil => exact absurd rfl h1
        | cons c r => rfl
      · rw [SX.split_S h1 h2]
        have g := Post.newl (xs := ((TL.spl b 0 [] a).map S).map V.str) (mk.ex (e1.trans e2)) (Post.mono (e1.trans e2) (show Post K M H Q m (.lst ((TL.spl b 0 [] a).map D.str)) from p)) np dxs
        exact g
    | _ => exact False.elim p) (fun _ z => z) h)
end
def Kspl (fe : Env → W D) (ρ : Env) (qd : D → Prop) (e : Str → Prop) : D → Prop
  | .str a => (fe ρ).rn (fun y => (dSplit (.str a) y).rn qd e) e
  | _ => False
section
variable {qd : D → Prop} {e : Str → Prop} {ρ : Env} {fo fe : Env → W D}
theorem we_split (h : (fo ρ).rn (Kspl fe ρ qd e) e) : (fSplit fo fe ρ).rn qd e := by
  refine (fo ρ).mono (fun x p => ?_) (fun _ z => z) h
  cases x <;> first | exact p | exact False.elim p
theorem wk_spl {a : List Nat} (h : (fe ρ).rn (fun y => (dSplit (.str a) y).rn qd e) e) : Kspl fe ρ qd e (.str a) := h
theorem wo_stri {i : Int} (hl : i.natAbs.log2 < 1920) (h : qd (.str (intL i))) : (dStr (.int i)).rn qd e := ⟨hl, h⟩
theorem wo_strs {l : List Nat} (h : qd (.str l)) : (dStr (.str l)).rn qd e := h
theorem wo_intt {l : List Nat} {n : Int} (g : PySem.intText? (S l) = some n) (hl : l.length ≤ 640) (h : qd (.int n)) : (dInt (.str l)).rn qd e := by
  dsimp only [dInt]
  rw [g]
  exact ⟨hl, h⟩
theorem wo_split {a b : List Nat} (h1 : b ≠ []) (h2 : b.all (· < 256) = true) (h3 : a.length + 2 ≤ 16777216) (h : qd (.lst ((TL.spl b 0 [] a).map D.str))) : (dSplit (.str a) (.str b)).rn qd e := ⟨⟨h1, h2, h3⟩, h⟩
end
def Kjoin (fe : Env → W D) (ρ : Env) (qd : D → Prop) (e : Str → Prop) : D → Prop
  | .str a => (fe ρ).rn (fun y => (dJoin (.str a) y).rn qd e) e
  | _ => False
theorem we_join {qd : D → Prop} {e : Str → Prop} {ρ : Env} {fo fe : Env → W D} (h : (fo ρ).rn (Kjoin fe ρ qd e) e) : (fJoin fo fe ρ).rn qd e := by
  refine (fo ρ).mono (fun x p => ?_) (fun _ z => z) h
  cases x <;> first | exact p | exact False.elim p
theorem wk_join {qd : D → Prop} {e : Str → Prop} {ρ : Env} {fe : Env → W D} {a : List Nat} (h : (fe ρ).rn (fun y => (dJoin (.str a) y).rn qd e) e) : Kjoin fe ρ qd e (.str a) := h
theorem wo_join {a : List Nat} {ls : List (List Nat)} {qd : D → Prop} {e : Str → Prop} (h : (ls.map (·.length)).sum + ls.length * a.length ≤ 16777216) (k : qd (.str (TL.joinL a ls))) : (dJoin (.str a) (.lst (ls.map D.str))).rn qd e := dJoin_ok h k
/-! ### a thing in a list of things that hold others -/
def rInDL (K : PySem.W.Frag) : R2 := fun x y H Q => ∃ d ds, Dp K H x d ∧ Dp K H y (.list ds) ∧ SeqAt.shaped d = true ∧ SeqAt.shaped (.list ds) = true ∧ Q (.bl (ds.any fun z => PyData.eqv z d)) H
theorem oInDL {X : Cx} {K : PySem.W.Frag} {k : Nat} (hr : Room k X.A) (hK : X.K = K := by rfl) : OpR X (compareOp .In) (rInDL K) := by
  subst hK
  intro pins s σ H x y v u Q I rx ry h
  obtain ⟨d, ds, hd, he, sd, se, q⟩ := h
  obtain ⟨as, r1⟩ := Dp.reads I d x v hd rx
  obtain ⟨bs, r2⟩ := Dp.reads I (.list ds) y u he ry
  exact SeqAt.in_list_reads r2 r1 (SeqAt.canLay_of_shaped se) (SeqAt.canLay_of_shaped sd) (room_in_shaped sd (by have := hr.un; omega)) ⟨.bl _, H, I, rfl, q⟩
def dInL : D → D → W D
  | x, .lst ys => .chk (x.flat 64 = true ∧ (D.lst ys).flat 64 = true) (.ok (.bl (ys.any fun y => eqD y x)))
  | _, _ => .stuck
theorem rd_inl {K : PySem.W.Frag} {m : Md} : RD K m (rInDL K) dInL := by
  intro M H x y v w Q e mk hx hy h
  cases y <;> first | (cases x <;> exact False.elim h) | skip
  rename_i ys
  have h' : (x.flat 64 = true ∧ (D.lst ys).flat 64 = true) ∧ Post K M H Q m (.bl (ys.any fun y => eqD y x)) := by cases x <;> exact h
  obtain ⟨⟨f1, f2⟩, h'⟩ := h'
  refine ⟨x.py, pyAll ys, hx.dp f1, hy.dp f2, flat_shaped f1 (Nat.le_refl _), flat_shaped f2 (Nat.le_refl _), ?_⟩
  rw [eqAny_py f1 63 (by decide) f2]
  exact Post.now h' rfl (fun _ q => nomatch q)
theorem wo_inl {x : D} {ys : List D} {qd : D → Prop} {e : Str → Prop} (f1 : x.flat 64 = true) (f2 : (D.lst ys).flat 64 = true) (h : qd (.bl (ys.any fun y => eqD y x))) : (dInL x (.lst ys)).rn qd e := by
  cases x <;> exact ⟨⟨f1, f2⟩, h⟩
theorem wo_all {bs : List Bool} {qd : D → Prop} {e : Str → Prop} (h : qd (.bl (bs.all id))) : (dAll (.lst (bs.map D.bl))).rn qd e := by
  dsimp only [dAll]; rw [boolsD_map]; exact h
theorem wo_any {bs : List Bool} {qd : D → Prop} {e : Str → Prop} (h : qd (.bl (bs.any id))) : (dAny (.lst (bs.map D.bl))).rn qd e := by
  dsimp only [dAny]; rw [boolsD_map]; exact h
end NV

set_option Elab.async false
set_option linter.all false
set_option maxRecDepth 100000
set_option maxHeartbeats 4000000
/-! # texts of programs -/
namespace NV
open PySem PySem.Spec PyProof.Rows L2
open Evl (Ex)
/-! ### split, then joined -/
theorem spl_ne (S : List Nat) : ∀ (l : List Nat) (k : Nat) (acc : List Nat), TL.spl S k acc l ≠ []
  | [], k, acc => by rw [TL.spl_nil]; simp
  | c :: r, k, acc => by
    rw [TL.spl_pass]
    cases e : (c :: r).drop k with
    | nil => rw [TL.spl_nil]; simp
    | cons d s =>
      cases h : TL.pre S (d :: s) with
      | true => rw [TL.spl_hit h]; simp
      | false =>
        rw [TL.spl_miss h]
        have : s.length < (c :: r).length := by
          have := congrArg List.length e
          rw [List.length_drop, List.length_cons, List.length_cons] at this
          rw [List.length_cons]; omega
        exact spl_ne S s 0 (acc ++ [d])
  termination_by l => l.length
theorem joinL_cons {S a : List Nat} {xs : List (List Nat)} (h : xs ≠ []) : TL.joinL S (a :: xs) = a ++ (S ++ TL.joinL S xs) := by
  cases xs with
  | nil => exact absurd rfl h
  | cons b r => rfl
theorem join_spl {S : List Nat} (hS : S ≠ []) : ∀ (n : Nat) (l acc : List Nat), l.length ≤ n → TL.joinL S (TL.spl S 0 acc l) = acc ++ l
  | _, [], acc, _ => by rw [TL.spl_nil]; show acc = _; rw [List.append_nil]
  | n + 1, c :: r, acc, hn => by
    rw [List.length_cons] at hn
    cases h : TL.pre S (c :: r) with
    | true =>
      rw [TL.spl_hit h, TL.spl_pass, joinL_cons (spl_ne _ _ _ _), join_spl hS n _ [] (by rw [List.length_drop]; omega), List.nil_append]
      have e : (c :: r).take S.length = S := eq_of_beq h
      have e2 : (c :: r) = S ++ (c :: r).drop S.length := by
        conv => lhs; rw [← List.take_append_drop S.length (c :: r), e]
      congr 1
      rw [e2]
      congr 1
      cases S with
      | nil => exact absurd rfl hS
      | cons s t => rw [List.length_cons, List.drop_succ_cons, Nat.add_sub_cancel]
    | false =>
      rw [TL.spl_miss h, join_spl hS n r (acc ++ [c]) (by omega), List.append_assoc]; rfl
theorem join_split {S l : List Nat} (hS : S ≠ []) : TL.joinL S (TL.spl S 0 [] l) = l := by
  rw [join_spl hS l.length l [] (Nat.le_refl _), List.nil_append]
theorem joinL_len (S : List Nat) : ∀ ls : List (List Nat), (ls.map (·.length)).sum ≤ (TL.joinL S ls).length
  | [] => Nat.zero_le _
  | [a] => by simp [TL.joinL]
  | a :: b :: r => by
    have := joinL_len S (b :: r)
    show ((a :: b :: r).map (·.length)).sum ≤ (a ++ (S ++ TL.joinL S (b :: r))).length
    rw [List.map_cons, List.sum_cons, List.length_append, List.length_append]; omega
theorem joinL_many {S : List Nat} (hS : S ≠ []) : ∀ ls : List (List Nat), ls.length ≤ (TL.joinL S ls).length + 1
  | [] => Nat.zero_le _
  | [a] => by simp
  | a :: b :: r => by
    have := joinL_many hS (b :: r)
    have hp : 0 < S.length := List.length_pos_iff.mpr hS
    show (a :: b :: r).length ≤ (a ++ (S ++ TL.joinL S (b :: r))).length + 1
    rw [List.length_cons, List.length_append, List.length_append]; omega
theorem joinL_le (S : List Nat) : ∀ ls : List (List Nat), (TL.joinL S ls).length ≤ (ls.map (·.length)).sum + ls.length * S.length
  | [] => Nat.zero_le _
  | [a] => by simp [TL.joinL]
  | a :: b :: r => by
    have := joinL_le S (b :: r)
    show (a ++ (S ++ TL.joinL S (b :: r))).length ≤ _
    rw [List.map_cons, List.sum_cons, List.length_append, List.length_append, List.length_cons, Nat.succ_mul]; omega
/-! ### whole numbers written -/
theorem numL_head {n : Nat} (hn : 0 < n) : (TL.numL n).head? ≠ some 48 := by
  induction n using Nat.strongRecOn with
  | _ n ih =>
    by_cases h : n < 10
    · rw [TL.numL_lt h]
      intro e
      have : 48 + n = 48 := by simpa using e
      omega
    · rw [TL.numL_step (by omega)]
      have h1 := ih (n / 10) (by omega) (by omega)
      have h2 := TL.numL_ne (n / 10)
      cases e : TL.numL (n / 10) with
      | nil => exact absurd e h2
      | cons c r => rw [e] at h1; simpa using h1
theorem numL_zero : TL.numL 0 = [48] := TL.numL_lt (by decide)
theorem digitsVal_snoc (l : List Nat) (c : Nat) : NumText.digitsVal (l ++ [c]) = NumText.digitsVal l * 10 + (c - 48) := by
  unfold NumText.digitsVal
  rw [List.foldl_append]; rfl
theorem digits_num : ∀ (n : Nat) (l : List Nat), l.length ≤ n → NumText.AllDigits l → l ≠ [] → l.head? ≠ some 48 → TL.numL (NumText.digitsVal l) = l ∧ 0 < NumText.digitsVal l
  | 0, l, hn, _, hne, _ => absurd (List.length_eq_zero_iff.mp (Nat.le_zero.mp hn)) hne
  | n + 1, l, hn, hd, hne, hh => by
    obtain ⟨m, c, rfl⟩ : ∃ m c, l = m ++ [c] := ⟨l.dropLast, l.getLast hne, (List.dropLast_concat_getLast hne).symm⟩
    have hc : 48 ≤ c ∧ c ≤ 57 := hd c (by simp)
    have hm : NumText.AllDigits m := fun x hx => hd x (List.mem_append_left _ hx)
    rw [digitsVal_snoc]
    by_cases e : m = []
    · subst e
      have : NumText.digitsVal [] = 0 := rfl
      rw [this, Nat.zero_mul, Nat.zero_add]
      have h48 : c ≠ 48 := fun e => hh (by rw [e]; rfl)
      refine ⟨?_, by omega⟩
      rw [TL.numL_lt (by omega)]
      show [48 + (c - 48)] = [c]
      congr 1; omega
    · have hh' : m.head? ≠ some 48 := by
        intro w
        apply hh
        cases m with
        | nil => exact absurd rfl e
        | cons a r => simpa using w
      rw [List.length_append, List.length_singleton] at hn
      obtain ⟨h1, h2⟩ := digits_num n m (by omega) hm e hh'
      refine ⟨?_, by omega⟩
      rw [TL.numL_step (by omega)]
      have e1 : (NumText.digitsVal m * 10 + (c - 48)) / 10 = NumText.digitsVal m := by omega
      have e2 : (NumText.digitsVal m * 10 + (c - 48)) % 10 = c - 48 := by omega
      rw [e1, e2, h1]
      congr 2; omega
theorem digitsVal_lt : ∀ (n : Nat) (l : List Nat), l.length ≤ n → NumText.AllDigits l → NumText.digitsVal l < 10 ^ l.length
  | 0, l, hn, _ => by rw [List.length_eq_zero_iff.mp (Nat.le_zero.mp hn)]; decide
  | n + 1, l, hn, hd => by
    by_cases e : l = []
    · rw [e]; decide
    obtain ⟨m, c, rfl⟩ : ∃ m c, l = m ++ [c] := ⟨l.dropLast, l.getLast e, (List.dropLast_concat_getLast e).symm⟩
    have hc : 48 ≤ c ∧ c ≤ 57 := hd c (by simp)
    have hm : NumText.AllDigits m := fun x hx => hd x (List.mem_append_left _ hx)
    rw [List.length_append, List.length_singleton] at hn ⊢
    have := digitsVal_lt n m (by omega) hm
    rw [digitsVal_snoc, Nat.pow_succ]; omega
theorem intL_nat (n : Nat) : intL (n : Int) = TL.numL n := by
  unfold intL
  rw [if_neg (by omega), Int.natAbs_natCast]
theorem intL_neg {n : Nat} (h : 0 < n) : intL (-(n : Int)) = 45 :: TL.numL n := by
  unfold intL
  rw [if_pos (by omega), Int.natAbs_neg, Int.natAbs_natCast]
theorem intL_signs {i : Int} {c : Nat} (h : c ∈ intL i) : c = 45 ∨ (48 ≤ c ∧ c ≤ 57) := by
  unfold intL at h
  split at h
  · rcases List.mem_cons.mp h with rfl | h
    · exact .inl rfl
    · exact .inr (TL.numL_digits _ _ h)
  · exact .inr (TL.numL_digits _ _ h)
theorem intL_free {i : Int} {s : Nat} (h : s < 45 ∨ s = 46 ∨ s = 47 ∨ 57 < s) : s ∉ intL i := fun hm => by
  have := intL_signs hm
  omega
theorem intL_inj {i j : Int} (h : intL i = intL j) : i = j := by
  have no : ∀ {n m : Nat}, TL.numL n ≠ 45 :: TL.numL m := fun {n m} e => by
    have := TL.numL_digits n 45 (by rw [e]; exact List.mem_cons_self)
    omega
  unfold intL at h
  by_cases hi : i < 0
  · by_cases hj : j < 0
    · rw [if_pos hi, if_pos hj] at h
      injection h with _ h
      have := TL.numL_inj h
      omega
    · rw [if_pos hi, if_neg hj] at h
      exact absurd h.symm no
  · by_cases hj : j < 0
    · rw [if_neg hi, if_pos hj] at h
      exact absurd h no
    · rw [if_neg hi, if_neg hj] at h
      have := TL.numL_inj h
      omega
theorem intL_len {i : Int} {k : Nat} (hk : 0 < k) (h : i.natAbs < 10 ^ k) : (intL i).length ≤ k + 1 := by
  have := TL.numL_len hk h
  unfold intL
  split
  · rw [List.length_cons]; omega
  · omega
theorem intL_ne (i : Int) : intL i ≠ [] := by
  unfold intL
  split
  · simp
  · exact TL.numL_ne _
/-- a text that begins with a minus, or not: what stands behind the sign -/
def plainL (l : List Nat) : List Nat := if l.take 1 = [45] then l.drop 1 else l
theorem plain_int (i : Int) : plainL (intL i) = TL.numL i.natAbs := by
  unfold plainL intL
  by_cases h : i < 0
  · rw [if_pos h, if_pos (show List.take 1 (45 :: TL.numL i.natAbs) = [45] from rfl)]; rfl
  · rw [if_neg h, if_neg]
    intro e
    have := TL.numL_digits i.natAbs 45 (List.mem_of_mem_take (i := 1) (by rw [e]; simp))
    omega
/-- int(..) of a text of digits, with a minus or without -/
theorem int_plain {l : List Nat} (hd : NumText.AllDigits (plainL l)) (hne : plainL l ≠ []) (hl : l.length ≤ 4300) : PySem.intText? (S l) = some (if l.take 1 = [45] then -((NumText.digitsVal (plainL l) : Nat) : Int) else ((NumText.digitsVal (plainL l) : Nat) : Int)) := by
  by_cases h : l.take 1 = [45]
  · have e : plainL l = l.drop 1 := by unfold plainL; rw [if_pos h]
    rw [if_pos h, e]
    rw [e] at hd hne
    cases l with
    | nil => cases h
    | cons c r =>
      have hc : c = 45 := by simpa using h
      subst hc
      exact PySem.intText_neg (x := S (45 :: r)) rfl hd hne hl
  · have e : plainL l = l := by unfold plainL; rw [if_neg h]
    rw [if_neg h, e]
    rw [e] at hd hne
    exact PySem.intText_digits (x := S l) hd hne hl
/-- the number of such a text, if it is written in the shortest way -/
theorem plain_back {l : List Nat} (hd : NumText.AllDigits (plainL l)) (hne : plainL l ≠ []) (h0 : (plainL l).head? ≠ some 48) : l = intL (if l.take 1 = [45] then -((NumText.digitsVal (plainL l) : Nat) : Int) else ((NumText.digitsVal (plainL l) : Nat) : Int)) := by
  obtain ⟨h1, h2⟩ := digits_num _ _ (Nat.le_refl _) hd hne h0
  by_cases h : l.take 1 = [45]
  · rw [if_pos h, intL_neg h2, h1]
    unfold plainL
    rw [if_pos h]
    cases l with
    | nil => cases h
    | cons c r =>
      have hc : c = 45 := by simpa using h
      subst hc; rfl
  · rw [if_neg h, intL_nat, h1]
    unfold plainL
    rw [if_neg h]
/-! ### an instruction as it is written: numbers of any kind, any text in the place of the tree -/
inductive ZRow where
  | set (a : Int) (t : List Nat)
  | two (w : List Nat) (a b : Int)
  | three (a b c : Int)
def wSet : List Nat := [115, 101, 116]
def wMove : List Nat := [109, 111, 118, 101]
def wCons : List Nat := [99, 111, 110, 115]
def wHead : List Nat := [104, 101, 97, 100]
def wTail : List Nat := [116, 97, 105, 108]
def wJump : List Nat := [106, 117, 109, 112]
def ZRow.ws : ZRow → List (List Nat)
  | .set a t => [wSet, intL a, t]
  | .two w a b => [w, intL a, intL b]
  | .three a b c => [wCons, intL a, intL b, intL c]
def ZRow.x : ZRow → D
  | .set a t => .tup [.str wSet, .int a, .str t]
  | .two w a b => .tup [.str w, .int a, .int b]
  | .three a b c => .tup [.str wCons, .int a, .int b, .int c]
def ZRow.ok : ZRow → Prop
  | .set _ t => 32 ∉ t
  | .two w _ _ => w = wMove ∨ w = wHead ∨ w = wTail ∨ w = wJump
  | .three _ _ _ => True
def ZRow.ints : ZRow → List Int
  | .set a _ => [a]
  | .two _ a b => [a, b]
  | .three a b c => [a, b, c]
def ZRow.small (k : Nat) (z : ZRow) : Prop := ∀ n ∈ z.ints, n.natAbs < k
def reg20 (a : Int) : Prop := 0 ≤ a ∧ a ≤ 19
def ZRow.rng (i n : Int) : ZRow → Prop
  | .set a t => reg20 a ∧ scan 1 t = some 0
  | .two w a b => if w = wJump then reg20 a ∧ 0 ≤ i + b ∧ i + b ≤ n else reg20 a ∧ reg20 b
  | .three a b c => reg20 a ∧ reg20 b ∧ reg20 c
def ZRow.txt (z : ZRow) : List Nat := TL.joinL [32] z.ws
def zOf : Row → ZRow
  | .set a t => .set a t.enc
  | .move a b => .two wMove a b
  | .cons a b c => .three a b c
  | .head a b => .two wHead a b
  | .tail a b => .two wTail a b
  | .jump a n => .two wJump a n
def textR (r : Row) : List Nat := (zOf r).txt
def textP (p : List Row) : List Nat := TL.joinL [59, 32] (p.map textR)
theorem zOf_x (r : Row) : (zOf r).x = r.x := by cases r <;> rfl
theorem enc_free {t : Tr} {c : Nat} (h : c ≠ 48) (h' : c ≠ 49) : c ∉ t.enc := fun hm => by
  rcases scan_signs (scan_enc1 t) c hm with e | e
  · exact h e
  · exact h' e
theorem zOf_ok (r : Row) : (zOf r).ok := by
  cases r with
  | set a t => exact enc_free (by decide) (by decide)
  | move a b => exact .inl rfl
  | cons a b c => trivial
  | head a b => exact .inr (.inl rfl)
  | tail a b => exact .inr (.inr (.inl rfl))
  | jump a n => exact .inr (.inr (.inr rfl))
theorem ws_free {z : ZRow} (h : z.ok) : ∀ w ∈ z.ws, 32 ∉ w := by
  intro w hw
  have i := fun {n : Int} => intL_free (i := n) (s := 32) (.inl (by decide))
  cases z with
  | set a t =>
    simp only [ZRow.ws, List.mem_cons, List.not_mem_nil, or_false] at hw
    rcases hw with rfl | rfl | rfl
    · decide
    · exact i
    · exact h
  | two v a b =>
    simp only [ZRow.ws, List.mem_cons, List.not_mem_nil, or_false] at hw
    rcases hw with rfl | rfl | rfl
    · rcases h with rfl | rfl | rfl | rfl <;> decide
    · exact i
    · exact i
  | three a b c =>
    simp only [ZRow.ws, List.mem_cons, List.not_mem_nil, or_false] at hw
    rcases hw with rfl | rfl | rfl | rfl
    · decide
    · exact i
    · exact i
    · exact i
theorem ws_ne (z : ZRow) : z.ws ≠ [] := by cases z <;> simp [ZRow.ws]
theorem spl_txt {z : ZRow} (h : z.ok) : TL.spl [32] 0 [] z.txt = z.ws := TL.spl_join (ws_ne z) (ws_free h)
theorem txt_of {l : List Nat} {z : ZRow} (h : TL.spl [32] 0 [] l = z.ws) : l = z.txt := by
  unfold ZRow.txt
  rw [← h, join_split (by decide)]
theorem ws_inj {y z : ZRow} (hy : y.ok) (hz : z.ok) (h : y.ws = z.ws) : y = z := by
  have nw : ∀ {w : List Nat}, (w = wMove ∨ w = wHead ∨ w = wTail ∨ w = wJump) → w ≠ wSet := fun {w} h e => by
    subst e
    rcases h with h | h | h | h <;> exact absurd h (by decide)
  cases y <;> cases z <;> simp only [ZRow.ws, List.cons.injEq, and_true, reduceCtorEq, and_false] at h
  · rw [intL_inj h.2.1, h.2.2]
  · exact absurd h.1.symm (nw hz)
  · exact absurd h.1 (nw hy)
  · rw [h.1, intL_inj h.2.1, intL_inj h.2.2]
  · rw [intL_inj h.2.1, intL_inj h.2.2.1, intL_inj h.2.2.2]
theorem txt_inj {y z : ZRow} (hy : y.ok) (hz : z.ok) (h : y.txt = z.txt) : y = z := by
  refine ws_inj hy hz ?_
  rw [← spl_txt hy, h, spl_txt hz]
/-- no semicolon in the text of an instruction -/
theorem joinL_free {S : List Nat} {c : Nat} (hS : c ∉ S) : ∀ {ls : List (List Nat)}, (∀ w ∈ ls, c ∉ w) → c ∉ TL.joinL S ls
  | [], _ => by simp [TL.joinL]
  | [a], h => h a (by simp)
  | a :: b :: r, h => by
    have ih := joinL_free hS (ls := b :: r) fun w hw => h w (List.mem_cons_of_mem _ hw)
    show c ∉ a ++ (S ++ TL.joinL S (b :: r))
    rw [List.mem_append, List.mem_append]
    rintro (q | q | q)
    · exact h a List.mem_cons_self q
    · exact hS q
    · exact ih q
theorem textR_free (r : Row) : 59 ∉ textR r := by
  refine joinL_free (by decide) fun w hw => ?_
  have i := fun {n : Int} => intL_free (i := n) (s := 59) (.inr (.inr (.inr (by decide))))
  cases r <;> simp only [zOf, ZRow.ws, List.mem_cons, List.not_mem_nil, or_false] at hw
  · rcases hw with rfl | rfl | rfl
    · decide
    · exact i
    · exact enc_free (by decide) (by decide)
  · rcases hw with rfl | rfl | rfl
    · decide
    · exact i
    · exact i
  · rcases hw with rfl | rfl | rfl | rfl
    · decide
    · exact i
    · exact i
    · exact i
  · rcases hw with rfl | rfl | rfl
    · decide
    · exact i
    · exact i
  · rcases hw with rfl | rfl | rfl
    · decide
    · exact i
    · exact i
  · rcases hw with rfl | rfl | rfl
    · decide
    · exact i
    · exact i
theorem spl_text {p : List Row} (h : p ≠ []) : TL.spl [59, 32] 0 [] (textP p) = p.map textR := by
  refine TL.spl_join (by simpa using h) fun w hw => ?_
  obtain ⟨r, _, rfl⟩ := List.mem_map.mp hw
  exact textR_free r
theorem joinL_pos {S a : List Nat} {ls : List (List Nat)} (h : a ∈ ls) (ha : a ≠ []) : TL.joinL S ls ≠ [] := fun e => by
  have h1 := joinL_len S ls
  rw [e] at h1
  have : a.length ≤ (ls.map (·.length)).sum := le_sum (List.mem_map.mpr ⟨a, h, rfl⟩)
  exact ha (List.length_eq_zero_iff.mp (by simp at h1; omega))
theorem txt_ne {z : ZRow} (h : z.ok) : z.txt ≠ [] := by
  cases z with
  | set a t => exact joinL_pos (a := intL a) (by simp [ZRow.ws]) (intL_ne _)
  | two w a b => exact joinL_pos (a := intL a) (by simp [ZRow.ws]) (intL_ne _)
  | three a b c => exact joinL_pos (a := intL a) (by simp [ZRow.ws]) (intL_ne _)
theorem textP_nil {p : List Row} : textP p = [] ↔ p = [] := by
  constructor
  · intro h
    cases p with
    | nil => rfl
    | cons r rs => exact absurd h (joinL_pos (a := textR r) (by simp) (txt_ne (zOf_ok r)))
  · rintro rfl; rfl
theorem textP_inj {p q : List Row} (h : textP p = textP q) : p = q := by
  by_cases hp : p = []
  · subst hp
    exact (textP_nil.mp h.symm).symm
  · have hq : q ≠ [] := fun e => hp (textP_nil.mp (by rw [h, e]; rfl))
    have e := spl_text hp
    rw [h, spl_text hq] at e
    have inj : ∀ {a b : Row}, textR a = textR b → a = b := fun {a b} e => by
      have e1 := congrArg ZRow.x (txt_inj (zOf_ok a) (zOf_ok b) e)
      rw [zOf_x, zOf_x] at e1
      have e2 : eqD (prgX [a]) (prgX [b]) = true := by
        show eqD (.lst [a.x]) (.lst [b.x]) = true
        rw [e1]; exact eqD_refl _ 64 (prg_flat64 [b])
      rw [eqD_prg] at e2
      have := of_decide_eq_true e2
      injection this
    have key : ∀ (p q : List Row), q.map textR = p.map textR → p = q := by
      intro p
      induction p with
      | nil => intro q e; cases q with
        | nil => rfl
        | cons a r => cases e
      | cons a r ih => intro q e; cases q with
        | nil => cases e
        | cons b s =>
          rw [List.map_cons, List.map_cons] at e
          injection e with e1 e2
          rw [inj e1, ih s e2]
    exact key p q e
/-- in range: it is an instruction -/
theorem rng_row {i n : Nat} {z : ZRow} (ok : z.ok) (h : z.rng i n) : ∃ r, z = zOf r ∧ OkRow 20 n i r := by
  have nat : ∀ {a : Int}, reg20 a → ∃ m : Nat, a = m ∧ m < 20 := fun {a} h => ⟨a.toNat, by have := h.1; omega, by have := h.2; have := h.1; omega⟩
  cases z with
  | set a t =>
    obtain ⟨m, rfl, hm⟩ := nat h.1
    obtain ⟨t, rfl⟩ := scan_tree h.2
    exact ⟨.set m t, rfl, fun x hx => by rw [List.mem_singleton.mp hx]; exact hm⟩
  | two w a b =>
    by_cases hw : w = wJump
    · have h' : reg20 a ∧ 0 ≤ (i : Int) + b ∧ (i : Int) + b ≤ n := by
        have h' : (if w = wJump then reg20 a ∧ 0 ≤ (i : Int) + b ∧ (i : Int) + b ≤ n else reg20 a ∧ reg20 b) := h
        rwa [if_pos hw] at h'
      obtain ⟨m, rfl, hm⟩ := nat h'.1
      exact ⟨.jump m b, by rw [hw]; rfl, hm, h'.2.1, h'.2.2⟩
    · have h' : reg20 a ∧ reg20 b := by
        have h' : (if w = wJump then reg20 a ∧ 0 ≤ (i : Int) + b ∧ (i : Int) + b ≤ n else reg20 a ∧ reg20 b) := h
        rwa [if_neg hw] at h'
      obtain ⟨m, rfl, hm⟩ := nat h'.1
      obtain ⟨k, rfl, hk⟩ := nat h'.2
      have two : ∀ x ∈ [m, k], x < 20 := by
        intro x hx
        simp at hx
        omega
      rcases ok with rfl | rfl | rfl | rfl
      · exact ⟨.move m k, rfl, two⟩
      · exact ⟨.head m k, rfl, two⟩
      · exact ⟨.tail m k, rfl, two⟩
      · exact absurd rfl hw
  | three a b c =>
    obtain ⟨m, rfl, hm⟩ := nat h.1
    obtain ⟨k, rfl, hk⟩ := nat h.2.1
    obtain ⟨l, rfl, hl⟩ := nat h.2.2
    refine ⟨.cons m k l, rfl, ?_⟩
    intro x hx
    have hx : x ∈ [m, k, l] := hx
    simp at hx
    omega
theorem row_rng {i n : Nat} {r : Row} (h : OkRow 20 n i r) : (zOf r).rng i n := by
  have reg : ∀ {a : Nat}, a < 20 → reg20 (a : Int) := fun {a} h => ⟨by omega, by omega⟩
  have hr := h.regs
  cases r with
  | set a t => exact ⟨reg (hr a (by simp [Row.regs])), scan_enc1 t⟩
  | move a b => exact ⟨reg (hr a (by simp [Row.regs])), reg (hr b (by simp [Row.regs]))⟩
  | cons a b c => exact ⟨reg (hr a (by simp [Row.regs])), reg (hr b (by simp [Row.regs])), reg (hr c (by simp [Row.regs]))⟩
  | head a b => exact ⟨reg (hr a (by simp [Row.regs])), reg (hr b (by simp [Row.regs]))⟩
  | tail a b => exact ⟨reg (hr a (by simp [Row.regs])), reg (hr b (by simp [Row.regs]))⟩
  | jump a m => exact ⟨reg h.1, h.2.1, h.2.2⟩
theorem rng_small {i n : Nat} {z : ZRow} {k : Nat} (hk : 20 ≤ k) (hn : n < k) (hi : i ≤ n) (h : z.rng i n) : z.small k := by
  have reg : ∀ {a : Int}, reg20 a → a.natAbs < k := fun {a} h => by have := h.1; have := h.2; omega
  cases z with
  | set a t => intro m hm; rw [List.mem_singleton.mp hm]; exact reg h.1
  | two w a b =>
    have h : (if w = wJump then reg20 a ∧ 0 ≤ (i : Int) + b ∧ (i : Int) + b ≤ n else reg20 a ∧ reg20 b) := h
    intro m hm
    simp only [ZRow.ints, List.mem_cons, List.not_mem_nil, or_false] at hm
    split at h
    · rcases hm with rfl | rfl
      · exact reg h.1
      · have := h.2.1; have := h.2.2; omega
    · rcases hm with rfl | rfl
      · exact reg h.1
      · exact reg h.2
  | three a b c =>
    intro m hm
    simp only [ZRow.ints, List.mem_cons, List.not_mem_nil, or_false] at hm
    rcases hm with rfl | rfl | rfl
    · exact reg h.1
    · exact reg h.2.1
    · exact reg h.2.2
theorem z_row {i n : Nat} {z : ZRow} (ok : z.ok) (h : isRowD (i : Int) (n : Int) z.x.py = true) : z.rng i n := by
  have reg : ∀ {a : Int}, regD (.int a) = true → reg20 a := fun {a} z => by
    have z : (decide ((0 : Int) ≤ a) && decide (a < 20)) = true := z
    rw [Bool.and_eq_true] at z
    exact ⟨of_decide_eq_true z.1, by have := of_decide_eq_true z.2; omega⟩
  cases z with
  | set a t =>
    have h : isRowD (i : Int) (n : Int) (.tuple [.str ("set" : Str), .int a, .str (S t)]) = true := h
    rw [isRowD3, if_pos rfl, Bool.and_eq_true] at h
    have h1 : (decide (t.length ≤ 200000) && decide (scan 1 t = some 0)) = true := h.1
    rw [Bool.and_eq_true] at h1
    exact ⟨reg h.2, of_decide_eq_true h1.2⟩
  | two w a b =>
    have nj : ∀ {w : List Nat}, w ≠ wJump → reg20 a → reg20 b → ZRow.rng i n (.two w a b) := fun {w} hw h1 h2 => by
      show (if w = wJump then reg20 a ∧ 0 ≤ (i : Int) + b ∧ (i : Int) + b ≤ n else reg20 a ∧ reg20 b)
      rw [if_neg hw]; exact ⟨h1, h2⟩
    rcases ok with rfl | rfl | rfl | rfl
    · have h : isRowD (i : Int) (n : Int) (.tuple [.str ("move" : Str), .int a, .int b]) = true := h
      rw [isRowD3, if_neg (by decide +kernel), if_neg (by decide +kernel), if_pos (.inl rfl), Bool.and_eq_true] at h
      exact nj (by decide) (reg h.1) (reg h.2)
    · have h : isRowD (i : Int) (n : Int) (.tuple [.str ("head" : Str), .int a, .int b]) = true := h
      rw [isRowD3, if_neg (by decide +kernel), if_neg (by decide +kernel), if_pos (.inr (.inl rfl)), Bool.and_eq_true] at h
      exact nj (by decide) (reg h.1) (reg h.2)
    · have h : isRowD (i : Int) (n : Int) (.tuple [.str ("tail" : Str), .int a, .int b]) = true := h
      rw [isRowD3, if_neg (by decide +kernel), if_neg (by decide +kernel), if_pos (.inr (.inr rfl)), Bool.and_eq_true] at h
      exact nj (by decide) (reg h.1) (reg h.2)
    · have h : isRowD (i : Int) (n : Int) (.tuple [.str ("jump" : Str), .int a, .int b]) = true := h
      rw [isRowD3, if_neg (by decide +kernel), if_pos rfl, Bool.and_eq_true] at h
      have h1 : (decide (0 ≤ (i : Int) + b) && decide ((i : Int) + b ≤ n)) = true := h.1
      rw [Bool.and_eq_true] at h1
      show (if wJump = wJump then reg20 a ∧ 0 ≤ (i : Int) + b ∧ (i : Int) + b ≤ n else reg20 a ∧ reg20 b)
      rw [if_pos rfl]
      exact ⟨reg h.2, of_decide_eq_true h1.1, of_decide_eq_true h1.2⟩
  | three a b c =>
    have h : (if ("cons" : Str) = "cons" then regD (.int a) && (regD (.int b) && regD (.int c)) else false) = true := h
    rw [if_pos rfl, Bool.and_eq_true, Bool.and_eq_true] at h
    exact ⟨reg h.1, reg h.2.1, reg h.2.2⟩
theorem pyAll_map (ds : List D) : pyAll ds = ds.map D.py := by
  induction ds with
  | nil => rfl
  | cons d r ih => rw [List.map_cons, ← ih]; rfl
theorem zs_rows : ∀ {zs : List ZRow}, (∀ z ∈ zs, ∃ r, z = zOf r) → ∃ p : List Row, zs = p.map zOf
  | [], _ => ⟨[], rfl⟩
  | z :: zs, h => by
    obtain ⟨r, e⟩ := h z List.mem_cons_self
    obtain ⟨p, hp⟩ := zs_rows fun y hy => h y (List.mem_cons_of_mem _ hy)
    exact ⟨r :: p, by rw [e, hp]; rfl⟩
/-- written instructions that are a program -/
theorem zs_prog {zs : List ZRow} (ok : ∀ z ∈ zs, z.ok) (h : isProgD (D.lst (zs.map ZRow.x)).py = true) : ∃ p : List Row, zs = p.map zOf := by
  have h : isProgD (.list (pyAll (zs.map ZRow.x))) = true := h
  rw [pyAll_map, List.map_map] at h
  have h : (decide ((zs.map (D.py ∘ ZRow.x)).length ≤ 600) && (rowsD ((zs.map (D.py ∘ ZRow.x)).length : Nat) 0 (zs.map (D.py ∘ ZRow.x)) && decide (((zs.map (D.py ∘ ZRow.x)).map setLen).sum ≤ 200000))) = true := h
  rw [Bool.and_eq_true, Bool.and_eq_true] at h
  have g := h.2.1
  have each : ∀ z ∈ zs, ∃ r, z = zOf r := fun z hz => by
    obtain ⟨i, hi⟩ := List.mem_iff_getElem?.mp hz
    have g1 := rowsD_get (i := i) (d := z.x.py) g (by rw [List.getElem?_map, hi]; rfl)
    rw [Nat.zero_add] at g1
    obtain ⟨r, e, _⟩ := rng_row (ok z hz) (z_row (ok z hz) g1)
    exact ⟨r, e⟩
  exact zs_rows each
theorem map_zOf_x (p : List Row) : (p.map zOf).map ZRow.x = p.map Row.x := by
  rw [List.map_map]
  exact List.map_congr_left fun r _ => zOf_x r
theorem map_txt_inj : ∀ {ys zs : List ZRow}, (∀ y ∈ ys, y.ok) → (∀ z ∈ zs, z.ok) → ys.map ZRow.txt = zs.map ZRow.txt → ys = zs
  | [], [], _, _, _ => rfl
  | [], _ :: _, _, _, h => by cases h
  | _ :: _, [], _, _, h => by cases h
  | y :: ys, z :: zs, hy, hz, h => by
    rw [List.map_cons, List.map_cons] at h
    injection h with h1 h2
    rw [txt_inj (hy y List.mem_cons_self) (hz z List.mem_cons_self) h1, map_txt_inj (fun x hx => hy x (List.mem_cons_of_mem _ hx)) (fun x hx => hz x (List.mem_cons_of_mem _ hx)) h2]
/-- the signs of the trees are signs of the text -/
theorem text_tlen : ∀ p : List Row, tlen p ≤ (textP p).length := fun p => by
  have h := joinL_len [59, 32] (p.map textR)
  refine Nat.le_trans ?_ h
  rw [List.map_map]
  unfold tlen
  induction p with
  | nil => exact Nat.le_refl _
  | cons r rs ih =>
    have ih := ih (joinL_len [59, 32] (rs.map textR))
    rw [List.map_cons, List.map_cons, List.sum_cons, List.sum_cons]
    have : rowLen r ≤ (textR r).length := by
      cases r with
      | set a t =>
        have h := joinL_len [32] (zOf (.set a t)).ws
        refine Nat.le_trans ?_ h
        show t.enc.length ≤ ([wSet, intL a, t.enc].map (·.length)).sum
        simp; omega
      | _ => exact Nat.zero_le _
    have e : ((fun x => x.length) ∘ textR) r = (textR r).length := rfl
    rw [e]; omega
theorem text_many (p : List Row) : p.length ≤ (textP p).length + 1 := by
  have := joinL_many (S := [59, 32]) (by decide) (p.map textR)
  rwa [List.length_map] at this
/-- when such a text's program is one -/
theorem text_is {p : List Row} (hl : (textP p).length ≤ 200000) : isProgD (prgD p) = true ↔ p.length ≤ 600 ∧ OkPrg 20 p := by
  have ht := text_tlen p
  constructor
  · intro h
    have g := Prg.of h
    exact ⟨g.len, g.ok⟩
  · rintro ⟨h1, h2⟩
    exact Prg.is ⟨h2, h1, by omega⟩
/-- signs in range -/
theorem spl_signs {S : List Nat} {P : Nat → Prop} : ∀ (n : Nat) (l acc : List Nat), l.length ≤ n → (∀ c ∈ l, P c) → (∀ c ∈ acc, P c) → ∀ w ∈ TL.spl S 0 acc l, ∀ c ∈ w, P c
  | _, [], acc, _, _, ha => fun w hw c hc => by
    rw [TL.spl_nil] at hw
    rw [List.mem_singleton.mp hw] at hc
    exact ha c hc
  | n + 1, c :: r, acc, hn, hl, ha => fun w hw x hx => by
    rw [List.length_cons] at hn
    cases h : TL.pre S (c :: r) with
    | true =>
      rw [TL.spl_hit h, TL.spl_pass] at hw
      rcases List.mem_cons.mp hw with rfl | hw
      · exact ha x hx
      · exact spl_signs n _ [] (by rw [List.length_drop]; omega) (fun c hc => hl c (List.mem_cons_of_mem _ (List.mem_of_mem_drop hc))) (fun c hc => nomatch hc) w hw x hx
    | false =>
      rw [TL.spl_miss h] at hw
      refine spl_signs n r (acc ++ [c]) (by omega) (fun c hc => hl c (List.mem_cons_of_mem _ hc)) (fun y hy => ?_) w hw x hx
      rcases List.mem_append.mp hy with hy | hy
      · exact ha y hy
      · rw [List.mem_singleton.mp hy]; exact hl c List.mem_cons_self
theorem split_signs {S : List Nat} {P : Nat → Prop} {l : List Nat} (h : ∀ c ∈ l, P c) : ∀ w ∈ TL.spl S 0 [] l, ∀ c ∈ w, P c := spl_signs l.length l [] (Nat.le_refl _) h (fun c hc => nomatch hc)
theorem split_len {S : List Nat} (hS : S ≠ []) {l w : List Nat} (h : w ∈ TL.spl S 0 [] l) : w.length ≤ l.length := by
  have h1 := joinL_len S (TL.spl S 0 [] l)
  rw [join_split hS] at h1
  have : w.length ≤ ((TL.spl S 0 [] l).map (·.length)).sum := le_sum (List.mem_map.mpr ⟨w, h, rfl⟩)
  omega
theorem split_many {S : List Nat} (hS : S ≠ []) (l : List Nat) : (TL.spl S 0 [] l).length ≤ l.length + 1 := by
  have h1 := joinL_many hS (TL.spl S 0 [] l)
  rw [join_split hS] at h1
  exact h1
/-- no part holds a separator of one sign -/
theorem split_free {c : Nat} : ∀ (n : Nat) (l acc : List Nat), l.length ≤ n → c ∉ acc → ∀ w ∈ TL.spl [c] 0 acc l, c ∉ w
  | _, [], acc, _, ha => fun w hw => by
    rw [TL.spl_nil] at hw
    rw [List.mem_singleton.mp hw]; exact ha
  | n + 1, d :: r, acc, hn, ha => fun w hw => by
    rw [List.length_cons] at hn
    cases h : TL.pre [c] (d :: r) with
    | true =>
      rw [TL.spl_hit h, TL.spl_pass] at hw
      rcases List.mem_cons.mp hw with rfl | hw
      · exact ha
      · exact split_free n _ [] (by rw [List.length_drop]; omega) (fun z => nomatch z) w hw
    | false =>
      rw [TL.spl_miss h] at hw
      refine split_free n r (acc ++ [d]) (by omega) (fun z => ?_) w hw
      rcases List.mem_append.mp z with z | z
      · exact ha z
      · have e := List.mem_singleton.mp z
        have : TL.pre [c] (d :: r) = true := by rw [← e]; exact TL.pre_self [c] r
        rw [h] at this; cases this
theorem zs_sOk {z : ZRow} (ok : z.ok) (h : ∀ c ∈ z.txt, c < 256) : z.x.flat 1 = true := by
  cases z with
  | set a t =>
    have ht : sOk t = true := by
      refine List.all_eq_true.mpr fun c hc => decide_eq_true ?_
      have hm : t ∈ TL.spl [32] 0 [] (ZRow.txt (.set a t)) := by rw [spl_txt ok]; simp [ZRow.ws]
      have := split_signs (S := [32]) (P := fun c => c < 256) h t hm c hc
      omega
    show (true && (true && (sOk t && true))) = true
    rw [ht]; rfl
  | two w a b => rcases ok with rfl | rfl | rfl | rfl <;> rfl
  | three a b c => rfl
theorem zs_flat1 : ∀ {zs : List ZRow}, (∀ z ∈ zs, z.x.flat 1 = true) → flatAll (zs.map ZRow.x) 1 = true
  | [], _ => rfl
  | z :: zs, h => by
    show (z.x.flat 1 && flatAll (zs.map ZRow.x) 1) = true
    rw [h z List.mem_cons_self, zs_flat1 fun y hy => h y (List.mem_cons_of_mem _ hy)]; rfl
theorem zs_ask {zs : List ZRow} (h : ∀ z ∈ zs, z.txt.length ≤ 10000000) : askD (D.lst (zs.map ZRow.x)).py := by
  intro ds e
  have e : PyData.list (pyAll (zs.map ZRow.x)) = .list ds := e
  rw [pyAll_map, List.map_map] at e
  injection e with e
  subst e
  refine ⟨fun a b s hs => ?_, fun es hes => ?_⟩
  · obtain ⟨z, hz, e⟩ := List.mem_map.mp hs
    cases z with
    | set n t =>
      have e : PyData.tuple [.str (S wSet), .int n, .str (S t)] = .tuple [a, b, .str s] := e
      injection e with e
      simp only [List.cons.injEq, and_true, PyData.str.injEq] at e
      rw [← e.2.2, S_len]
      have h1 := h _ hz
      have h2 := joinL_len [32] (ZRow.ws (.set n t))
      have h3 : t.length ≤ ((ZRow.ws (.set n t)).map (·.length)).sum := le_sum (List.mem_map.mpr ⟨t, by simp [ZRow.ws], rfl⟩)
      unfold ZRow.txt at h1
      omega
    | two w n m =>
      have e : PyData.tuple [.str (S w), .int n, .int m] = .tuple [a, b, .str s] := e
      injection e with e
      simp only [List.cons.injEq, and_true, reduceCtorEq, and_false] at e
    | three n m k =>
      have e : PyData.tuple [.str (S wCons), .int n, .int m, .int k] = .tuple [a, b, .str s] := e
      injection e with e
      simp only [List.cons.injEq, and_true, reduceCtorEq, and_false] at e
  · obtain ⟨z, hz, e⟩ := List.mem_map.mp hes
    cases z with
    | set n t =>
      have e : PyData.tuple [.str (S wSet), .int n, .str (S t)] = .tuple es := e
      injection e with e
      subst e; simp
    | two w n m =>
      have e : PyData.tuple [.str (S w), .int n, .int m] = .tuple es := e
      injection e with e
      subst e; simp
    | three n m k =>
      have e : PyData.tuple [.str (S wCons), .int n, .int m, .int k] = .tuple es := e
      injection e with e
      subst e; simp
theorem log_small {n : Nat} (h : n < 10 ^ 100) : n.log2 < 1920 := by
  by_cases h0 : n = 0
  · subst h0; decide
  · refine (Nat.log2_lt h0).mpr (Nat.lt_trans h ?_)
    decide +kernel
theorem take1_cut {α : Type} (l : List α) : cutL l none (some 1) = l.take 1 := by
  unfold cutL
  have : HT.sIx l.length l.length (some 1) = min 1 l.length := by unfold HT.sIx; simp
  rw [HT.sIx_none, this, List.drop_zero, Nat.sub_zero]
  cases l <;> simp
theorem drop1_cut {α : Type} (l : List α) : cutL l (some 1) none = l.drop 1 := by
  unfold cutL
  have : HT.sIx l.length 0 (some 1) = min 1 l.length := by unfold HT.sIx; simp
  rw [HT.sIx_none, this]
  cases l with
  | nil => rfl
  | cons c r =>
    rw [show min 1 (c :: r).length = 1 by simp, List.take_of_length_le (by simp)]
def digitsS : List Nat := [48, 49, 50, 51, 52, 53, 54, 55, 56, 57]
theorem mem_digits {c : Nat} : c ∈ digitsS ↔ 48 ≤ c ∧ c ≤ 57 := by
  unfold digitsS
  simp only [List.mem_cons, List.not_mem_nil, or_false]
  omega
theorem all_digits {l : List Nat} : ((l.map fun c => decide (c ∈ digitsS)).all id) = true ↔ NumText.AllDigits l := by
  rw [List.all_map, List.all_eq_true]
  constructor
  · intro h c hc
    exact mem_digits.mp (of_decide_eq_true (h c hc))
  · intro h c hc
    exact decide_eq_true (mem_digits.mpr (h c hc))
theorem plain_len (l : List Nat) : l.length ≤ (plainL l).length + 1 ∧ (plainL l).length ≤ l.length := by
  unfold plainL
  split
  · rw [List.length_drop]; omega
  · omega
end NV

namespace NV
open PySem PySem.Spec PyProof.Rows L2
open Evl (Ex)
local macro_rules | `(tactic| walk_at "w") => `(tactic| repeat (first | with_reducible refine w_in ?_ | with_reducible refine w_if ?_ | with_reducible refine wk_rt ?_ | with_reducible refine wk_nx ?_ | with_reducible refine ws_seq ?_ | with_reducible refine wk_snx ?_ | with_reducible refine wk_srt ?_ | with_reducible refine wk_sbk ?_ | with_reducible refine wk_sct ?_ | with_reducible refine ws_next ?_ | with_reducible refine ws_break ?_ | with_reducible refine ws_cont ?_ | with_reducible refine ws_ret ?_ | with_reducible refine ws_retN ?_ | with_reducible refine ws_drop ?_ | with_reducible refine ws_set ?_ | with_reducible refine ws_setf ?_ | with_reducible refine ws_asg ?_ | with_reducible refine wk_asg ?_ | with_reducible refine wg_0 ?_ | with_reducible refine wg_1 ?_ | with_reducible refine ws_if ?_ | with_reducible refine we_if ?_ | with_reducible refine ws_forT ?_ | with_reducible refine ws_for ?_ | with_reducible refine wl_nil ?_ | with_reducible refine wl_cons ?_ | with_reducible refine wk_fnx ?_ | with_reducible refine wk_fct ?_ | with_reducible refine wk_fbk ?_ | with_reducible refine wk_frt ?_ | with_reducible refine wt_nx ?_ | with_reducible refine wt_ct ?_ | with_reducible refine wt_bk ?_ | with_reducible refine wt_rt ?_ | with_reducible refine we_list ?_ | with_reducible refine wk_list ?_ | with_reducible refine wc_nil ?_ | with_reducible refine wc_cons ?_ | with_reducible refine we_yes ?_ | with_reducible refine wi_items ?_ | with_reducible refine wi_str ?_ | with_reducible refine wi_lst ?_ | with_reducible refine wi_tup ?_ | with_reducible refine wi_r1 ?_ | with_reducible refine wi_r2 ?_ | with_reducible refine wi_en ?_ | with_reducible refine wk_en ?_ | with_reducible refine wi_rev ?_ | with_reducible refine wi_revl ?_ | with_reducible refine wi_revt ?_ | with_reducible refine we_c ?_ | with_reducible refine we_op ?_ | with_reducible refine we_un ?_ | with_reducible refine wa_nil ?_ | with_reducible refine wa_cons ?_ | with_reducible refine we_tup ?_ | with_reducible refine we_lst ?_ | with_reducible refine wo_no ?_ | with_reducible refine wo_some ?_ | with_reducible refine wk_i ?_ | with_reducible refine we_sl ?_ | with_reducible refine wk_b ?_ | with_reducible refine we_t ?_ | with_reducible refine we_andV ?_ | with_reducible refine we_orV ?_ | with_reducible refine we_notV ?_ | with_reducible refine we_and ?_ | with_reducible refine we_or ?_ | with_reducible refine we_not ?_ | with_reducible refine we_chain ?_ | with_reducible refine we_call ?_ | with_reducible refine we_calm ?_ | with_reducible refine ws_try ?_ | with_reducible refine wo_addi ?_ | with_reducible refine wo_sub ?_ | with_reducible refine wo_neg ?_ | with_reducible refine wo_ci ?_ | with_reducible refine wo_eq ?_ | with_reducible refine wo_ne ?_ | with_reducible refine wq_int ?_ | with_reducible refine wq_str ?_ | with_reducible refine wq_bl ?_ | with_reducible refine wq_nn ?_ | with_reducible refine wo_in ?_ | with_reducible refine wo_nin ?_ | with_reducible refine wn_str ?_ | with_reducible refine wo_sll ?_ | with_reducible refine wo_slt ?_ | with_reducible refine wo_lenl ?_ | with_reducible refine wo_lent ?_ | with_reducible refine wo_tol ?_ | with_reducible refine wo_tol' ?_ | with_reducible refine wo_tot ?_ | with_reducible refine wo_inti ?_ | with_reducible refine wo_intb ?_ | with_reducible refine wo_isn ?_ | with_reducible refine wo_isi0 ?_ | with_reducible refine wo_iss0 ?_ | with_reducible refine wo_isl0 ?_ | with_reducible refine wo_ist0 ?_ | with_reducible refine wo_isb ?_ | with_reducible refine wo_isnot ?_ | with_reducible refine wk_bn ?_ | with_reducible refine wo_max2 ?_ | with_reducible refine wo_tru ?_ | with_reducible refine wo_trub ?_ | with_reducible refine wo_trul ?_ | with_reducible refine wo_trut ?_ | with_reducible refine wo_trui ?_ | with_reducible refine wk_t ?_ | with_reducible refine wk_f ?_ | with_reducible refine wk_nt ?_ | with_reducible refine wk_nf ?_ | with_reducible refine ws_par ?_ | with_reducible refine ws_raise ?_ | with_reducible refine ws_cioC ?_ | with_reducible refine ws_cio ?_ | with_reducible refine wk_cio ?_ | with_reducible refine wk_iort ?_ | with_reducible refine wk_ionx ?_ | with_reducible refine we_op3 ?_ | with_reducible refine wo_max3 ?_ | with_reducible refine wo_min2 ?_ | with_reducible refine wk_set ?_ | with_reducible refine ws_aug ?_ | with_reducible refine wk_augi ?_ | with_reducible refine wg_n ?_ | with_reducible refine we_v ?_ | with_reducible refine we_callS ?_ | with_reducible refine we_lc ?_ | with_reducible refine wo_revl ?_ | with_reducible refine wi_ru ?_ | with_reducible refine wi_rul ?_ | with_reducible refine we_lcX ?_ | with_reducible refine we_bm ?_ | with_reducible refine wk_ty rfl ?_ | with_reducible refine wo_count ?_ | with_reducible refine wo_rfind ?_ | with_reducible refine we_scal ?_ | with_reducible refine we_split ?_ | with_reducible refine wk_spl ?_ | with_reducible refine we_join ?_ | with_reducible refine wk_join ?_ | with_reducible refine wo_strs ?_ | with_reducible refine wk_scb ?_ | with_reducible refine wk_scn ?_ | with_reducible refine wk_sci ?_ | with_reducible refine wk_scs ?_ | with_reducible refine wk_sctr ?_ | with_reducible refine ws_app ?_ | with_reducible refine ws_ext ?_ | with_reducible refine ws_sub ?_ | with_reducible refine ws_pop0 ?_ | with_reducible refine wk_par ?_ | with_reducible refine ws_pop ?_ | with_reducible refine wlenD (by decide) ?_ | with_reducible refine wo_isiC ?_ | with_reducible refine wo_ixlC ?_ | with_reducible refine wo_ixtC ?_ | with_reducible refine wg_tC ?_ | with_reducible refine wg_tlC ?_ | with_reducible refine wk_listp ?_ | with_reducible refine wq_prg ?_ | with_reducible refine wq_prg0 ?_ | with_reducible refine wq_0prg ?_ | with_reducible refine wq_tree ?_ | with_reducible refine wq_treel ?_ | with_reducible refine wo_lenp ?_ | with_reducible refine wi_prg ?_ | with_reducible refine wo_tolp ?_ | with_reducible refine wo_istr ?_ | with_reducible refine wo_ispr ?_ | with_reducible refine wo_isnb ?_ | with_reducible refine wk_eqt ?_ | with_reducible refine wk_neqt ?_ | with_reducible refine wq_treet (by decide) ?_ | with_reducible refine wq_nons ?_ | with_reducible refine wq_treew (by decide) ?_ | with_reducible refine wq_nont (by decide) ?_ | with_reducible refine wq_tt (by decide) (by decide) ?_ | with_reducible refine wk_tt (by decide) ?_ | with_reducible refine wk_ff (by decide) ?_ | with_reducible refine wk_yes (by decide) ?_ | with_reducible refine wk_no (by decide) ?_ | with_reducible refine wk_ny (by decide) ?_ | with_reducible refine wk_nn (by decide) ?_))
local macro_rules | `(tactic| walk_at "d") => `(tactic| (refine wd_def ?_; walk_at "w"))
local macro_rules | `(tactic| walk_at "dio") => `(tactic| (refine wd_io ?_; walk_at "w"))
def top (i : Nat) : Stmt := PySem.Challenge.pw_narcissus_k10_texts.main.body.getD i (.Pass ⟨0, 0, 0, 0⟩)
abbrev s_programs_is_whole : Stmt := top 12
theorem sc_programs_is_whole : FnScope ["value"] ["value"] (defScope s_programs_is_whole) := ⟨rfl, rfl, rfl, by decide +kernel, rfl, by decide +kernel, by decide +kernel⟩
abbrev s_trees_is_tree : Stmt := top 5
theorem sc_trees_is_tree : FnScope ["value", "missing", "sign"] ["value"] (defScope s_trees_is_tree) := ⟨rfl, rfl, rfl, by decide +kernel, rfl, by decide +kernel, by decide +kernel⟩
abbrev s_programs_is_instruction : Stmt := top 13
theorem sc_programs_is_instruction : FnScope ["value", "at", "count", "word", "registers", "part"] ["value", "at", "count"] (defScope s_programs_is_instruction) := ⟨rfl, rfl, rfl, by decide +kernel, rfl, by decide +kernel, by decide +kernel⟩
abbrev s_programs_is_program : Stmt := top 14
theorem sc_programs_is_program : FnScope ["value", "at", "row"] ["value"] (defScope s_programs_is_program) := ⟨rfl, rfl, rfl, by decide +kernel, rfl, by decide +kernel, by decide +kernel⟩
abbrev s_programs_parse_number : Stmt := top 16
theorem sc_programs_parse_number : FnScope ["word", "plain", "sign", "value"] ["word"] (defScope s_programs_parse_number) := ⟨rfl, rfl, rfl, by decide +kernel, rfl, by decide +kernel, by decide +kernel⟩
abbrev s_programs_parse_row : Stmt := top 17
theorem sc_programs_parse_row : FnScope ["line", "words", "word"] ["line"] (defScope s_programs_parse_row) := ⟨rfl, rfl, rfl, by decide +kernel, rfl, by decide +kernel, by decide +kernel⟩
abbrev s_programs_parse : Stmt := top 18
theorem sc_programs_parse : FnScope ["line", "program", "part"] ["line"] (defScope s_programs_parse) := ⟨rfl, rfl, rfl, by decide +kernel, rfl, by decide +kernel, by decide +kernel⟩
abbrev s_programs_text : Stmt := top 15
theorem sc_programs_text : FnScope ["program", "part", "row"] ["program"] (defScope s_programs_text) := ⟨rfl, rfl, rfl, by decide +kernel, rfl, by decide +kernel, by decide +kernel⟩
abbrev s_L_given : Stmt := top 33
theorem sc_L_given : FnScope ["_law_told_here"] ["_law_told_here"] (defScope s_L_given) := ⟨rfl, rfl, rfl, by decide +kernel, rfl, by decide +kernel, by decide +kernel⟩
abbrev s_L_told : Stmt := top 34
theorem sc_L_told : FnScope ["_law_line", "e"] ["_law_line"] (defScope s_L_told) := ⟨rfl, rfl, rfl, by decide +kernel, rfl, by decide +kernel, by decide +kernel⟩
abbrev s_L_is_tree : Stmt := top 29
theorem sc_L_is_tree : FnScope ["_law_value", "_law_missing", "_law_sign"] ["_law_value"] (defScope s_L_is_tree) := ⟨rfl, rfl, rfl, by decide +kernel, rfl, by decide +kernel, by decide +kernel⟩
abbrev s_L_number : Stmt := top 28
theorem sc_L_number : FnScope ["_law_word", "_law_plain", "_law_sign"] ["_law_word"] (defScope s_L_number) := ⟨rfl, rfl, rfl, by decide +kernel, rfl, by decide +kernel, by decide +kernel⟩
abbrev s_L_row : Stmt := top 30
theorem sc_L_row : FnScope ["_law_line", "_law_at", "_law_many", "_law_words", "_law_numbers", "_law_word", "_law_number_here"] ["_law_line", "_law_at", "_law_many"] (defScope s_L_row) := ⟨rfl, rfl, rfl, by decide +kernel, rfl, by decide +kernel, by decide +kernel⟩
abbrev s_L_due : Stmt := top 31
theorem sc_L_due : FnScope ["_law_line", "_law_lines", "_law_rows", "_law_at"] ["_law_line"] (defScope s_L_due) := ⟨rfl, rfl, rfl, by decide +kernel, rfl, by decide +kernel, by decide +kernel⟩
abbrev s_L_draw : Stmt := top 21
theorem sc_L_draw : FnScope ["_law_stream_here", "_law_many", "_law_value"] ["_law_stream_here", "_law_many"] (defScope s_L_draw) := ⟨rfl, rfl, rfl, by decide +kernel, rfl, by decide +kernel, by decide +kernel⟩
abbrev s_L_text : Stmt := top 27
theorem sc_L_text : FnScope ["_law_program_here", "_law_rows", "_law_row_here", "_law_part"] ["_law_program_here"] (defScope s_L_text) := ⟨rfl, rfl, rfl, by decide +kernel, rfl, by decide +kernel, by decide +kernel⟩
abbrev s_L_long : Stmt := top 32
theorem sc_L_long : FnScope ["_law_stream_here", "_law_many", "_law_rows", "_law_k", "_law_at", "_law_deep", "_law_tree_here"] ["_law_stream_here"] (defScope s_L_long) := ⟨rfl, rfl, rfl, by decide +kernel, rfl, by decide +kernel, by decide +kernel⟩
abbrev s_L_tree : Stmt := top 22
theorem sc_L_tree : FnScope ["_law_stream_here", "_law_pairs", "_law_signs", "_law_missing"] ["_law_stream_here", "_law_pairs"] (defScope s_L_tree) := ⟨rfl, rfl, rfl, by decide +kernel, rfl, by decide +kernel, by decide +kernel⟩
abbrev s_L_program : Stmt := top 26
theorem sc_L_program : FnScope ["_law_stream_here", "_law_most", "_law_wide", "_law_many", "_law_rows", "_law_at", "_law_word", "_law_a", "_law_b"] ["_law_stream_here", "_law_most", "_law_wide"] (defScope s_L_program) := ⟨rfl, rfl, rfl, by decide +kernel, rfl, by decide +kernel, by decide +kernel⟩
abbrev s_L_stream : Stmt := top 20
theorem sc_L_stream : FnScope ["_law_script", "_law_mixed", "_law_cell"] ["_law_script"] (defScope s_L_stream) := ⟨rfl, rfl, rfl, by decide +kernel, rfl, by decide +kernel, by decide +kernel⟩
abbrev s_L_law : Stmt := top 35
theorem sc_L_law : FnScope ["_law_script", "_law_stream_here", "_law_program_here", "_law_line", "_law_given_here", "_law_found", "_law_many", "_law_other", "_law_turn", "_law_k", "_law_at", "_law_sign"] ["_law_script"] (defScope s_L_law) := ⟨rfl, rfl, rfl, by decide +kernel, rfl, by decide +kernel, by decide +kernel⟩
structure Txt (K : PySem.W.Frag) (mg : Str → Option Value) (w : World) : Prop where
  x_BadText : ExcK K mg "BadText"
  x_NarcissusError : ExcK K mg "NarcissusError"
  e_BadText_BadText : ExM K mg "BadText" "BadText" true
  e_NarcissusError_BadText : ExM K mg "NarcissusError" "BadText" false
  i_BadText : IsX K mg "BadText"
  k_BadText_NarcissusError : KitX K mg "BadText" "NarcissusError" true
  t_BadText_ValueError : KitT K mg "BadText" "ValueError" true
  i_NarcissusError : IsX K mg "NarcissusError"
  k_NarcissusError_NarcissusError : KitX K mg "NarcissusError" "NarcissusError" true
  t_NarcissusError_ValueError : KitT K mg "NarcissusError" "ValueError" true
  m_DIGITS : ∃ t, mg "DIGITS" = some (.str "0123456789" t)
  m_MOST_CODE : ∃ t, mg "MOST_CODE" = some (.int 600 t)
  m_MOST_TREE : ∃ t, mg "MOST_TREE" = some (.int 200000 t)
  m_PARTS : GDict K w mg "PARTS" [("set", .int 3), ("move", .int 3), ("cons", .int 4), ("head", .int 3), ("tail", .int 3), ("jump", .int 3)]
  m_REGISTERS : ∃ t, mg "REGISTERS" = some (.int 20 t)
  m_WORDS : GTup K mg "WORDS" [.str "set", .str "move", .str "cons", .str "head", .str "tail", .str "jump"]
  n_ValueError : mg "ValueError" = none
  n_abs : mg "abs" = none
  n_all : mg "all" = none
  n_any : mg "any" = none
  n_bool : mg "bool" = none
  n_enumerate : mg "enumerate" = none
  n_int : mg "int" = none
  n_isinstance : mg "isinstance" = none
  n_len : mg "len" = none
  n_list : mg "list" = none
  n_range : mg "range" = none
  n_str : mg "str" = none
  n_sum : mg "sum" = none
  n_tuple : mg "tuple" = none
  f_programs_is_whole : Fn K mg "is_whole" "is_whole" s_programs_is_whole ["value"]
  f_trees_is_tree : Fn K mg "is_tree" "is_tree" s_trees_is_tree ["value"]
  f_programs_is_instruction : Fn K mg "is_instruction" "is_instruction" s_programs_is_instruction ["value", "at", "count"]
  f_programs_is_program : Fn K mg "is_program" "is_program" s_programs_is_program ["value"]
  f_programs_parse_number : Fn K mg "parse_number" "parse_number" s_programs_parse_number ["word"]
  f_programs_parse_row : Fn K mg "parse_row" "parse_row" s_programs_parse_row ["line"]
  f_programs_parse : Fn K mg "parse" "parse" s_programs_parse ["line"]
  f_programs_text : Fn K mg "text" "text" s_programs_text ["program"]
  f_L_given : Fn K mg "_law_given" "_law_given" s_L_given ["_law_told_here"]
  f_L_told : Fn K mg "_law_told" "_law_told" s_L_told ["_law_line"]
  f_L_is_tree : Fn K mg "_law_is_tree" "_law_is_tree" s_L_is_tree ["_law_value"]
  f_L_number : Fn K mg "_law_number" "_law_number" s_L_number ["_law_word"]
  f_L_row : Fn K mg "_law_row" "_law_row" s_L_row ["_law_line", "_law_at", "_law_many"]
  f_L_due : Fn K mg "_law_due" "_law_due" s_L_due ["_law_line"]
  f_L_draw : Fn K mg "_law_draw" "_law_draw" s_L_draw ["_law_stream_here", "_law_many"]
  f_L_text : Fn K mg "_law_text" "_law_text" s_L_text ["_law_program_here"]
  f_L_long : Fn K mg "_law_long" "_law_long" s_L_long ["_law_stream_here"]
  f_L_tree : Fn K mg "_law_tree" "_law_tree" s_L_tree ["_law_stream_here", "_law_pairs"]
  f_L_program : Fn K mg "_law_program" "_law_program" s_L_program ["_law_stream_here", "_law_most", "_law_wide"]
  f_L_stream : Fn K mg "_law_stream" "_law_stream" s_L_stream ["_law_script"]
theorem txt_mk {K : PySem.W.Frag} {w : World} {h : Heap} {mg : Str → Option Value} (X : K.In h) (G : h.Ns mainGlobals mg)
    {C1 : Addr} (a1 : PySem.W.nsIn K mainGlobals "BadText" = some (some (.ref C1))) (x1 : PySem.W.excIn K C1 [.type "ValueError", .type "Exception", .type "BaseException", .type "object"] "ValueError.__new__" = true) (k1 : PySem.W.keepIn K (.ref C1) = true) (s1 : PySem.W.subIn K (.ref C1) (.type "BaseException") = some true) (t1 : PySem.W.typeIn K (.ref C1) = some (.type "type")) (i1 : PySem.W.isClsIn K C1 = true)
    {C2 : Addr} (a2 : PySem.W.nsIn K mainGlobals "NarcissusError" = some (some (.ref C2))) (x2 : PySem.W.excIn K C2 [.type "ValueError", .type "Exception", .type "BaseException", .type "object"] "ValueError.__new__" = true) (k2 : PySem.W.keepIn K (.ref C2) = true) (s2 : PySem.W.subIn K (.ref C2) (.type "BaseException") = some true) (t2 : PySem.W.typeIn K (.ref C2) = some (.type "type")) (i2 : PySem.W.isClsIn K C2 = true)
    (p3 : PySem.W.subIn K (.ref C1) (.ref C1) = some true)
    (p4 : PySem.W.subIn K (.ref C2) (.ref C1) = some false)
    (b5 : PySem.W.findIn K (.ref C1) "__getattribute__" = some (some (.builtin "BaseException.__getattribute__"))) (d5 : PySem.W.findIn K (.ref C1) "__getattr__" = some none) (e5 : PySem.W.hasDictIn K C1 = true) (g5 : PySem.W.findIn K (.ref C1) "__class__" = some (some (.builtin "object.__class__"))) (h5 : PySem.W.specialIn K (.builtin "object.__class__") "__get__" = some (some (.builtin "getset_descriptor.__get__"))) (j5 : PySem.W.takesIn K (.builtin "object.__class__") = some true) (m5 : PySem.W.mroIn K C1 (.type "object") = some true)
    (q6 : PySem.W.subIn K (.ref C1) (.ref C2) = some true) (w6 : C1 = C2 → ("BadText" : Str) = "NarcissusError")
    (q7 : PySem.W.subIn K (.ref C1) (.type "ValueError") = some true)
    (b8 : PySem.W.findIn K (.ref C2) "__getattribute__" = some (some (.builtin "BaseException.__getattribute__"))) (d8 : PySem.W.findIn K (.ref C2) "__getattr__" = some none) (e8 : PySem.W.hasDictIn K C2 = true) (g8 : PySem.W.findIn K (.ref C2) "__class__" = some (some (.builtin "object.__class__"))) (h8 : PySem.W.specialIn K (.builtin "object.__class__") "__get__" = some (some (.builtin "getset_descriptor.__get__"))) (j8 : PySem.W.takesIn K (.builtin "object.__class__") = some true) (m8 : PySem.W.mroIn K C2 (.type "object") = some true)
    (q9 : PySem.W.subIn K (.ref C2) (.ref C2) = some true) (w9 : C2 = C2 → ("NarcissusError" : Str) = "NarcissusError")
    (q10 : PySem.W.subIn K (.ref C2) (.type "ValueError") = some true)
    {tk11 : Tok} (z11 : PySem.W.nsIn K mainGlobals "DIGITS" = some (some (.str "0123456789" tk11)))
    {tk12 : Tok} (z12 : PySem.W.nsIn K mainGlobals "MOST_CODE" = some (some (.int 600 tk12)))
    {tk13 : Tok} (z13 : PySem.W.nsIn K mainGlobals "MOST_TREE" = some (some (.int 200000 tk13)))
    {d14 : Addr} {es14 : Array DictEntry} {nn14 : Nat} {td14_0 td14_1 td14_2 td14_3 td14_4 td14_5 : Tok} (z14 : PySem.W.nsIn K mainGlobals "PARTS" = some (some (.ref d14))) (y14 : K.lookup d14 = some ⟨.type "dict", none, .dict es14 nn14, #[]⟩) (u14 : PySem.W.KeysLit w.params es14.toList) (v14 : (d14 == sysModules) = false)
    (o14_0 : PySem.W.nsIn K d14 "set" = some (some (.int 3 td14_0)))
    (o14_1 : PySem.W.nsIn K d14 "move" = some (some (.int 3 td14_1)))
    (o14_2 : PySem.W.nsIn K d14 "cons" = some (some (.int 4 td14_2)))
    (o14_3 : PySem.W.nsIn K d14 "head" = some (some (.int 3 td14_3)))
    (o14_4 : PySem.W.nsIn K d14 "tail" = some (some (.int 3 td14_4)))
    (o14_5 : PySem.W.nsIn K d14 "jump" = some (some (.int 3 td14_5)))
    {tk15 : Tok} (z15 : PySem.W.nsIn K mainGlobals "REGISTERS" = some (some (.int 20 tk15)))
    {a16 : Addr} {tq16_0 tq16_1 tq16_2 tq16_3 tq16_4 tq16_5 : Tok} {nn16 : Nat} {sl16 : Array (Option Value)} (z16 : PySem.W.nsIn K mainGlobals "WORDS" = some (some (.ref a16))) (y16 : K.lookup a16 = some ⟨.type "tuple", none, .seq #[.str "set" tq16_0, .str "move" tq16_1, .str "cons" tq16_2, .str "head" tq16_3, .str "tail" tq16_4, .str "jump" tq16_5] nn16, sl16⟩)
    (z17 : PySem.W.nsIn K mainGlobals "ValueError" = some none)
    (z18 : PySem.W.nsIn K mainGlobals "abs" = some none)
    (z19 : PySem.W.nsIn K mainGlobals "all" = some none)
    (z20 : PySem.W.nsIn K mainGlobals "any" = some none)
    (z21 : PySem.W.nsIn K mainGlobals "bool" = some none)
    (z22 : PySem.W.nsIn K mainGlobals "enumerate" = some none)
    (z23 : PySem.W.nsIn K mainGlobals "int" = some none)
    (z24 : PySem.W.nsIn K mainGlobals "isinstance" = some none)
    (z25 : PySem.W.nsIn K mainGlobals "len" = some none)
    (z26 : PySem.W.nsIn K mainGlobals "list" = some none)
    (z27 : PySem.W.nsIn K mainGlobals "range" = some none)
    (z28 : PySem.W.nsIn K mainGlobals "str" = some none)
    (z29 : PySem.W.nsIn K mainGlobals "sum" = some none)
    (z30 : PySem.W.nsIn K mainGlobals "tuple" = some none)
    {f31 : Addr} {od31 an31 : Option Addr} {sl31 : Array (Option Value)} {oc31 kV31 dc31 pm31 cd31 ct31 : Value}
    (a31 : PySem.W.nsIn K mainGlobals "is_whole" = some (some (.ref f31))) (l31 : K.lookup f31 = some ⟨oc31, od31, .func (PySem.W.fnOf "is_whole" "is_whole" (defArgs s_programs_is_whole) (defBody s_programs_is_whole) (defScope s_programs_is_whole) .none kV31 dc31 pm31 an31 cd31 ct31), sl31⟩) (c31 : PySem.W.codeIn K cd31 "is_whole" = true) (k31 : PySem.W.keepIn K (.ref f31) = true)
    {f32 : Addr} {od32 an32 : Option Addr} {sl32 : Array (Option Value)} {oc32 kV32 dc32 pm32 cd32 ct32 : Value}
    (a32 : PySem.W.nsIn K mainGlobals "is_tree" = some (some (.ref f32))) (l32 : K.lookup f32 = some ⟨oc32, od32, .func (PySem.W.fnOf "is_tree" "is_tree" (defArgs s_trees_is_tree) (defBody s_trees_is_tree) (defScope s_trees_is_tree) .none kV32 dc32 pm32 an32 cd32 ct32), sl32⟩) (c32 : PySem.W.codeIn K cd32 "is_tree" = true) (k32 : PySem.W.keepIn K (.ref f32) = true)
    {f33 : Addr} {od33 an33 : Option Addr} {sl33 : Array (Option Value)} {oc33 kV33 dc33 pm33 cd33 ct33 : Value}
    (a33 : PySem.W.nsIn K mainGlobals "is_instruction" = some (some (.ref f33))) (l33 : K.lookup f33 = some ⟨oc33, od33, .func (PySem.W.fnOf "is_instruction" "is_instruction" (defArgs s_programs_is_instruction) (defBody s_programs_is_instruction) (defScope s_programs_is_instruction) .none kV33 dc33 pm33 an33 cd33 ct33), sl33⟩) (c33 : PySem.W.codeIn K cd33 "is_instruction" = true) (k33 : PySem.W.keepIn K (.ref f33) = true)
    {f34 : Addr} {od34 an34 : Option Addr} {sl34 : Array (Option Value)} {oc34 kV34 dc34 pm34 cd34 ct34 : Value}
    (a34 : PySem.W.nsIn K mainGlobals "is_program" = some (some (.ref f34))) (l34 : K.lookup f34 = some ⟨oc34, od34, .func (PySem.W.fnOf "is_program" "is_program" (defArgs s_programs_is_program) (defBody s_programs_is_program) (defScope s_programs_is_program) .none kV34 dc34 pm34 an34 cd34 ct34), sl34⟩) (c34 : PySem.W.codeIn K cd34 "is_program" = true) (k34 : PySem.W.keepIn K (.ref f34) = true)
    {f35 : Addr} {od35 an35 : Option Addr} {sl35 : Array (Option Value)} {oc35 kV35 dc35 pm35 cd35 ct35 : Value}
    (a35 : PySem.W.nsIn K mainGlobals "parse_number" = some (some (.ref f35))) (l35 : K.lookup f35 = some ⟨oc35, od35, .func (PySem.W.fnOf "parse_number" "parse_number" (defArgs s_programs_parse_number) (defBody s_programs_parse_number) (defScope s_programs_parse_number) .none kV35 dc35 pm35 an35 cd35 ct35), sl35⟩) (c35 : PySem.W.codeIn K cd35 "parse_number" = true) (k35 : PySem.W.keepIn K (.ref f35) = true)
    {f36 : Addr} {od36 an36 : Option Addr} {sl36 : Array (Option Value)} {oc36 kV36 dc36 pm36 cd36 ct36 : Value}
    (a36 : PySem.W.nsIn K mainGlobals "parse_row" = some (some (.ref f36))) (l36 : K.lookup f36 = some ⟨oc36, od36, .func (PySem.W.fnOf "parse_row" "parse_row" (defArgs s_programs_parse_row) (defBody s_programs_parse_row) (defScope s_programs_parse_row) .none kV36 dc36 pm36 an36 cd36 ct36), sl36⟩) (c36 : PySem.W.codeIn K cd36 "parse_row" = true) (k36 : PySem.W.keepIn K (.ref f36) = true)
    {f37 : Addr} {od37 an37 : Option Addr} {sl37 : Array (Option Value)} {oc37 kV37 dc37 pm37 cd37 ct37 : Value}
    (a37 : PySem.W.nsIn K mainGlobals "parse" = some (some (.ref f37))) (l37 : K.lookup f37 = some ⟨oc37, od37, .func (PySem.W.fnOf "parse" "parse" (defArgs s_programs_parse) (defBody s_programs_parse) (defScope s_programs_parse) .none kV37 dc37 pm37 an37 cd37 ct37), sl37⟩) (c37 : PySem.W.codeIn K cd37 "parse" = true) (k37 : PySem.W.keepIn K (.ref f37) = true)
    {f38 : Addr} {od38 an38 : Option Addr} {sl38 : Array (Option Value)} {oc38 kV38 dc38 pm38 cd38 ct38 : Value}
    (a38 : PySem.W.nsIn K mainGlobals "text" = some (some (.ref f38))) (l38 : K.lookup f38 = some ⟨oc38, od38, .func (PySem.W.fnOf "text" "text" (defArgs s_programs_text) (defBody s_programs_text) (defScope s_programs_text) .none kV38 dc38 pm38 an38 cd38 ct38), sl38⟩) (c38 : PySem.W.codeIn K cd38 "text" = true) (k38 : PySem.W.keepIn K (.ref f38) = true)
    {f39 : Addr} {od39 an39 : Option Addr} {sl39 : Array (Option Value)} {oc39 kV39 dc39 pm39 cd39 ct39 : Value}
    (a39 : PySem.W.nsIn K mainGlobals "_law_given" = some (some (.ref f39))) (l39 : K.lookup f39 = some ⟨oc39, od39, .func (PySem.W.fnOf "_law_given" "_law_given" (defArgs s_L_given) (defBody s_L_given) (defScope s_L_given) .none kV39 dc39 pm39 an39 cd39 ct39), sl39⟩) (c39 : PySem.W.codeIn K cd39 "_law_given" = true) (k39 : PySem.W.keepIn K (.ref f39) = true)
    {f40 : Addr} {od40 an40 : Option Addr} {sl40 : Array (Option Value)} {oc40 kV40 dc40 pm40 cd40 ct40 : Value}
    (a40 : PySem.W.nsIn K mainGlobals "_law_told" = some (some (.ref f40))) (l40 : K.lookup f40 = some ⟨oc40, od40, .func (PySem.W.fnOf "_law_told" "_law_told" (defArgs s_L_told) (defBody s_L_told) (defScope s_L_told) .none kV40 dc40 pm40 an40 cd40 ct40), sl40⟩) (c40 : PySem.W.codeIn K cd40 "_law_told" = true) (k40 : PySem.W.keepIn K (.ref f40) = true)
    {f41 : Addr} {od41 an41 : Option Addr} {sl41 : Array (Option Value)} {oc41 kV41 dc41 pm41 cd41 ct41 : Value}
    (a41 : PySem.W.nsIn K mainGlobals "_law_is_tree" = some (some (.ref f41))) (l41 : K.lookup f41 = some ⟨oc41, od41, .func (PySem.W.fnOf "_law_is_tree" "_law_is_tree" (defArgs s_L_is_tree) (defBody s_L_is_tree) (defScope s_L_is_tree) .none kV41 dc41 pm41 an41 cd41 ct41), sl41⟩) (c41 : PySem.W.codeIn K cd41 "_law_is_tree" = true) (k41 : PySem.W.keepIn K (.ref f41) = true)
    {f42 : Addr} {od42 an42 : Option Addr} {sl42 : Array (Option Value)} {oc42 kV42 dc42 pm42 cd42 ct42 : Value}
    (a42 : PySem.W.nsIn K mainGlobals "_law_number" = some (some (.ref f42))) (l42 : K.lookup f42 = some ⟨oc42, od42, .func (PySem.W.fnOf "_law_number" "_law_number" (defArgs s_L_number) (defBody s_L_number) (defScope s_L_number) .none kV42 dc42 pm42 an42 cd42 ct42), sl42⟩) (c42 : PySem.W.codeIn K cd42 "_law_number" = true) (k42 : PySem.W.keepIn K (.ref f42) = true)
    {f43 : Addr} {od43 an43 : Option Addr} {sl43 : Array (Option Value)} {oc43 kV43 dc43 pm43 cd43 ct43 : Value}
    (a43 : PySem.W.nsIn K mainGlobals "_law_row" = some (some (.ref f43))) (l43 : K.lookup f43 = some ⟨oc43, od43, .func (PySem.W.fnOf "_law_row" "_law_row" (defArgs s_L_row) (defBody s_L_row) (defScope s_L_row) .none kV43 dc43 pm43 an43 cd43 ct43), sl43⟩) (c43 : PySem.W.codeIn K cd43 "_law_row" = true) (k43 : PySem.W.keepIn K (.ref f43) = true)
    {f44 : Addr} {od44 an44 : Option Addr} {sl44 : Array (Option Value)} {oc44 kV44 dc44 pm44 cd44 ct44 : Value}
    (a44 : PySem.W.nsIn K mainGlobals "_law_due" = some (some (.ref f44))) (l44 : K.lookup f44 = some ⟨oc44, od44, .func (PySem.W.fnOf "_law_due" "_law_due" (defArgs s_L_due) (defBody s_L_due) (defScope s_L_due) .none kV44 dc44 pm44 an44 cd44 ct44), sl44⟩) (c44 : PySem.W.codeIn K cd44 "_law_due" = true) (k44 : PySem.W.keepIn K (.ref f44) = true)
    {f45 : Addr} {od45 an45 : Option Addr} {sl45 : Array (Option Value)} {oc45 kV45 dc45 pm45 cd45 ct45 : Value}
    (a45 : PySem.W.nsIn K mainGlobals "_law_draw" = some (some (.ref f45))) (l45 : K.lookup f45 = some ⟨oc45, od45, .func (PySem.W.fnOf "_law_draw" "_law_draw" (defArgs s_L_draw) (defBody s_L_draw) (defScope s_L_draw) .none kV45 dc45 pm45 an45 cd45 ct45), sl45⟩) (c45 : PySem.W.codeIn K cd45 "_law_draw" = true) (k45 : PySem.W.keepIn K (.ref f45) = true)
    {f46 : Addr} {od46 an46 : Option Addr} {sl46 : Array (Option Value)} {oc46 kV46 dc46 pm46 cd46 ct46 : Value}
    (a46 : PySem.W.nsIn K mainGlobals "_law_text" = some (some (.ref f46))) (l46 : K.lookup f46 = some ⟨oc46, od46, .func (PySem.W.fnOf "_law_text" "_law_text" (defArgs s_L_text) (defBody s_L_text) (defScope s_L_text) .none kV46 dc46 pm46 an46 cd46 ct46), sl46⟩) (c46 : PySem.W.codeIn K cd46 "_law_text" = true) (k46 : PySem.W.keepIn K (.ref f46) = true)
    {f47 : Addr} {od47 an47 : Option Addr} {sl47 : Array (Option Value)} {oc47 kV47 dc47 pm47 cd47 ct47 : Value}
    (a47 : PySem.W.nsIn K mainGlobals "_law_long" = some (some (.ref f47))) (l47 : K.lookup f47 = some ⟨oc47, od47, .func (PySem.W.fnOf "_law_long" "_law_long" (defArgs s_L_long) (defBody s_L_long) (defScope s_L_long) .none kV47 dc47 pm47 an47 cd47 ct47), sl47⟩) (c47 : PySem.W.codeIn K cd47 "_law_long" = true) (k47 : PySem.W.keepIn K (.ref f47) = true)
    {f48 : Addr} {od48 an48 : Option Addr} {sl48 : Array (Option Value)} {oc48 kV48 dc48 pm48 cd48 ct48 : Value}
    (a48 : PySem.W.nsIn K mainGlobals "_law_tree" = some (some (.ref f48))) (l48 : K.lookup f48 = some ⟨oc48, od48, .func (PySem.W.fnOf "_law_tree" "_law_tree" (defArgs s_L_tree) (defBody s_L_tree) (defScope s_L_tree) .none kV48 dc48 pm48 an48 cd48 ct48), sl48⟩) (c48 : PySem.W.codeIn K cd48 "_law_tree" = true) (k48 : PySem.W.keepIn K (.ref f48) = true)
    {f49 : Addr} {od49 an49 : Option Addr} {sl49 : Array (Option Value)} {oc49 kV49 dc49 pm49 cd49 ct49 : Value}
    (a49 : PySem.W.nsIn K mainGlobals "_law_program" = some (some (.ref f49))) (l49 : K.lookup f49 = some ⟨oc49, od49, .func (PySem.W.fnOf "_law_program" "_law_program" (defArgs s_L_program) (defBody s_L_program) (defScope s_L_program) .none kV49 dc49 pm49 an49 cd49 ct49), sl49⟩) (c49 : PySem.W.codeIn K cd49 "_law_program" = true) (k49 : PySem.W.keepIn K (.ref f49) = true)
    {f50 : Addr} {od50 an50 : Option Addr} {sl50 : Array (Option Value)} {oc50 kV50 dc50 pm50 cd50 ct50 : Value}
    (a50 : PySem.W.nsIn K mainGlobals "_law_stream" = some (some (.ref f50))) (l50 : K.lookup f50 = some ⟨oc50, od50, .func (PySem.W.fnOf "_law_stream" "_law_stream" (defArgs s_L_stream) (defBody s_L_stream) (defScope s_L_stream) .none kV50 dc50 pm50 an50 cd50 ct50), sl50⟩) (c50 : PySem.W.codeIn K cd50 "_law_stream" = true) (k50 : PySem.W.keepIn K (.ref f50) = true)
    : Txt K mg w :=
  ⟨⟨C1, PySem.W.mg_of X G a1, x1, k1, s1, t1⟩,
   ⟨C2, PySem.W.mg_of X G a2, x2, k2, s2, t2⟩,
   exm_mk X G a1 a1 s1 i1 t1 p3,
   exm_mk X G a2 a1 s1 i1 t1 p4,
   ⟨C1, PySem.W.mg_of X G a1, ⟨b5, d5, s1, e5, g5, h5, j5, m5⟩⟩,
   kitx_mk X G a1 a2 i2 t2 q6 (by decide) w6,
   kitt_mk X G a1 (by decide +kernel) q7,
   ⟨C2, PySem.W.mg_of X G a2, ⟨b8, d8, s2, e8, g8, h8, j8, m8⟩⟩,
   kitx_mk X G a2 a2 i2 t2 q9 (by decide) w9,
   kitt_mk X G a2 (by decide +kernel) q10,
   ⟨_, PySem.W.mg_of X G z11⟩,
   ⟨_, PySem.W.mg_of X G z12⟩,
   ⟨_, PySem.W.mg_of X G z13⟩,
   gdict_mk X G z14 y14 u14 v14 (lookup_all (fun q hq => (by simp only [List.mem_cons, List.not_mem_nil, or_false] at hq; rcases hq with rfl | rfl | rfl | rfl | rfl | rfl; exact ⟨_, o14_0, _, rfl⟩; exact ⟨_, o14_1, _, rfl⟩; exact ⟨_, o14_2, _, rfl⟩; exact ⟨_, o14_3, _, rfl⟩; exact ⟨_, o14_4, _, rfl⟩; exact ⟨_, o14_5, _, rfl⟩))),
   ⟨_, PySem.W.mg_of X G z15⟩,
   ⟨a16, PySem.W.mg_of X G z16, fun _ => .inr ⟨_, _, _, y16, rfl, rfl, (by show 6 ≤ sizeLine; decide), .cons ⟨_, rfl⟩ (.cons ⟨_, rfl⟩ (.cons ⟨_, rfl⟩ (.cons ⟨_, rfl⟩ (.cons ⟨_, rfl⟩ (.cons ⟨_, rfl⟩ (.nil))))))⟩, _, y16, rfl, rfl⟩,
   PySem.W.mg_none_of X G z17,
   PySem.W.mg_none_of X G z18,
   PySem.W.mg_none_of X G z19,
   PySem.W.mg_none_of X G z20,
   PySem.W.mg_none_of X G z21,
   PySem.W.mg_none_of X G z22,
   PySem.W.mg_none_of X G z23,
   PySem.W.mg_none_of X G z24,
   PySem.W.mg_none_of X G z25,
   PySem.W.mg_none_of X G z26,
   PySem.W.mg_none_of X G z27,
   PySem.W.mg_none_of X G z28,
   PySem.W.mg_none_of X G z29,
   PySem.W.mg_none_of X G z30,
   fn_mk X G a31 l31 c31 k31 (fun _ _ _ _ _ _ us hl => match us, hl with | [_], _ => rfl),
   fn_mk X G a32 l32 c32 k32 (fun _ _ _ _ _ _ us hl => match us, hl with | [_], _ => rfl),
   fn_mk X G a33 l33 c33 k33 (fun _ _ _ _ _ _ us hl => match us, hl with | [_, _, _], _ => rfl),
   fn_mk X G a34 l34 c34 k34 (fun _ _ _ _ _ _ us hl => match us, hl with | [_], _ => rfl),
   fn_mk X G a35 l35 c35 k35 (fun _ _ _ _ _ _ us hl => match us, hl with | [_], _ => rfl),
   fn_mk X G a36 l36 c36 k36 (fun _ _ _ _ _ _ us hl => match us, hl with | [_], _ => rfl),
   fn_mk X G a37 l37 c37 k37 (fun _ _ _ _ _ _ us hl => match us, hl with | [_], _ => rfl),
   fn_mk X G a38 l38 c38 k38 (fun _ _ _ _ _ _ us hl => match us, hl with | [_], _ => rfl),
   fn_mk X G a39 l39 c39 k39 (fun _ _ _ _ _ _ us hl => match us, hl with | [_], _ => rfl),
   fn_mk X G a40 l40 c40 k40 (fun _ _ _ _ _ _ us hl => match us, hl with | [_], _ => rfl),
   fn_mk X G a41 l41 c41 k41 (fun _ _ _ _ _ _ us hl => match us, hl with | [_], _ => rfl),
   fn_mk X G a42 l42 c42 k42 (fun _ _ _ _ _ _ us hl => match us, hl with | [_], _ => rfl),
   fn_mk X G a43 l43 c43 k43 (fun _ _ _ _ _ _ us hl => match us, hl with | [_, _, _], _ => rfl),
   fn_mk X G a44 l44 c44 k44 (fun _ _ _ _ _ _ us hl => match us, hl with | [_], _ => rfl),
   fn_mk X G a45 l45 c45 k45 (fun _ _ _ _ _ _ us hl => match us, hl with | [_, _], _ => rfl),
   fn_mk X G a46 l46 c46 k46 (fun _ _ _ _ _ _ us hl => match us, hl with | [_], _ => rfl),
   fn_mk X G a47 l47 c47 k47 (fun _ _ _ _ _ _ us hl => match us, hl with | [_], _ => rfl),
   fn_mk X G a48 l48 c48 k48 (fun _ _ _ _ _ _ us hl => match us, hl with | [_, _], _ => rfl),
   fn_mk X G a49 l49 c49 k49 (fun _ _ _ _ _ _ us hl => match us, hl with | [_, _, _], _ => rfl),
   fn_mk X G a50 l50 c50 k50 (fun _ _ _ _ _ _ us hl => match us, hl with | [_], _ => rfl)⟩
def sp_programs_is_whole (K : PySem.W.Frag) (_ : Str → Option Value) : Sp := fun vs H Q _ => ∃ (v : V) (d : PyData), vs = [v] ∧ Dp K H v d ∧ Q (.bl (wholeD d)) H

section
variable {P : Program} {w : World} {K : PySem.W.Frag} {mg : Str → Option Value} {base : Heap}
theorem ok_programs_is_whole (T : Txt K mg w) : Cal P w K mg base CX0 1 "is_whole" ["value"] (sp_programs_is_whole K mg) := by
  refine T.f_programs_is_whole.ok sc_programs_is_whole (fun vs H Q E h => (by obtain ⟨_, _, rfl, _⟩ := h; rfl)) (fun f cdv A outer s H vs Q E hr h => ⟨_, (pss_one (ps_ret (pe_and (pe_callB (cIsi (K := K)) (by rfl) T.n_isinstance PyProof.Rows.boot_isinstance (pa_cons (nv 0) (pa_cons (nTy T.n_int PyProof.Rows.boot_int) pa_nil))) (pe_one (pe_not (pe_callB (cIsi (K := K)) (by rfl) T.n_isinstance PyProof.Rows.boot_isinstance (pa_cons (nv 0) (pa_cons (nTy T.n_bool PyProof.Rows.boot_bool) pa_nil)))))))), ?_⟩)
  obtain ⟨v, d, rfl, hd, k⟩ := h
  cases hd with
  | non => exact ⟨false, rfl, false, rfl, k⟩
  | bl b => exact ⟨true, rfl, true, rfl, true, rfl, true, rfl, k⟩
  | int i => exact ⟨true, rfl, true, rfl, false, rfl, false, rfl, k⟩
  | str s => exact ⟨false, rfl, false, rfl, k⟩
  | lst h _ => exact ⟨_, false, sql_ty h, rfl, false, rfl, k⟩
  | tup h _ => exact ⟨_, false, sqt_ty h, rfl, false, rfl, k⟩
end
def G_programs_is_whole : List D → W D := fun
  | [x] => .chk (x.flat 64 = true) (.ok (.bl (wholeD x.py)))
  | _ => .stuck
def F_programs_is_whole : List D → W D := fun ds => W.calm (G_programs_is_whole ds)
theorem br_programs_is_whole {P : Program} {w : World} {K : PySem.W.Frag} {mg : Str → Option Value} {base : Heap} {k : Nat} {g : Str} {ps : List Str} (c : Cal P w K mg base CX0 k g ps (sp_programs_is_whole K mg)) : Cal P w K mg base CX0 k g ps (spF K mg 1 .v F_programs_is_whole) :=
  Cal.bridge G_programs_is_whole c fun ds vs H Q hl r run => by
    obtain ⟨x, rfl⟩ := oneD hl
    obtain ⟨v, rfl, h⟩ := args1 r
    exact ⟨v, x.py, rfl, Dx.dp x 64 run.1 h, run.2 _ H (Ex.refl H) rfl⟩

def sp_trees_is_tree (K : PySem.W.Frag) (_ : Str → Option Value) : Sp := fun vs H Q _ => ∃ (v : V) (b : Bool), vs = [v] ∧ TrAns K H v b ∧ Q (.bl b) H

section
variable {P : Program} {w : World} {K : PySem.W.Frag} {mg : Str → Option Value} {base : Heap}
theorem ok_trees_is_tree (T : Txt K mg w) : Cal P w K mg base CX0 1 "is_tree" ["value"] (sp_trees_is_tree K mg) := by
  refine T.f_trees_is_tree.ok sc_trees_is_tree (fun vs H Q E h => (by obtain ⟨_, _, rfl, _⟩ := h; rfl)) (fun f cdv A outer s H vs Q E hr h => ⟨_, (pss_cons (ps_if (PW.pt (pw_or (pt_not (nVal (pe_callB (cIsi (K := K)) (by rfl) T.n_isinstance PyProof.Rows.boot_isinstance (pa_cons (nv 0) (pa_cons (nTy T.n_str PyProof.Rows.boot_str) pa_nil))))) (pw_or1 (nCmp oGt (pe_callB (cLen (K := K)) (by rfl) T.n_len PySem.boot_len (pa_cons (nv 0) pa_nil)) (nGlobI T.m_MOST_TREE) (nomark _))))) (pss_one (ps_ret pe_bl)) pss_nil)
      (pss_cons (ps_set (i := 1) sc_trees_is_tree.nd rfl (.inl rfl) pe_int)
      (pss_cons (ps_for PassesOwn.never rfl (piAny (K := K) (nv 0)) (pg_name (i := 2) sc_trees_is_tree.nd rfl (.inl rfl)) (pss_cons (ps_if (PW.pt (pw_or (nCmp (oEq (K := K) hr.units) (nv 1) pe_int (nomark _)) (pw_or1 (nCmp (oNotIn (K := K)) (nv 2) pe_str (by rfl))))) (pss_one (ps_ret pe_bl)) pss_nil)
      (pss_one (ps_if (nCmp (oEq (K := K) hr.units) (nv 2) pe_str (nomark _)) (pss_one (ps_aug (i := 1) sc_trees_is_tree.nd rfl (.inl rfl) pe_int ip_add)) (pss_one (ps_aug (i := 1) sc_trees_is_tree.nd rfl (.inl rfl) pe_int ip_sub))))))
      (pss_one (ps_ret (pe_cmpR (oEq (K := K) hr.units) (nv 1) pe_int (nomark _))))))), ?_⟩)
  obtain ⟨v, b, rfl, av, k'⟩ := h
  cases av with
  | @str l hl =>
    have hz : (S l).length ≤ sizeLine := Nat.le_trans hl (by decide)
    refine ⟨true, rfl, hz, iteD (fun hg => ?_) (fun hg => ?_)⟩
    · have e : isTr l = false := by
        unfold isTr
        rw [decide_eq_false (by have : (l.length : Int) > 200000 := hg; omega)]
        rfl
      rw [e] at k'
      exact k'
    · have hle : l.length ≤ 200000 := by
        have : ¬ ((l.length : Int) > 200000) := hg
        omega
      have ei : isTr l = decide (scan 1 l = some 0) := by
        unfold isTr
        rw [decide_eq_true hle, Bool.true_and]
      rw [ei] at k'
      refine for_str (z := l) (fun i σ' H' => H' = H ∧ ∃ (m : Nat) (c : Option V), σ' = [some (.str (S l)), some (.int m), c] ∧ scan m (l.drop i) = scan 1 l) ⟨rfl, 1, none, rfl, rfl⟩ ?_ ?_
      · rintro i c σ' H' hc ⟨rfl, m, v, rfl, hm⟩
        rw [drop_cons hc] at hm
        have out : scan 1 l = none → Q (.bl false) H' := fun e => by
          rw [e] at k'
          exact k'
        refine iteI (fun e => out ?_) (fun e => ⟨c, rfl, iteN (fun e2 => out ?_) (fun hin => ?_)⟩)
        · have : m = 0 := by omega
          rw [this] at hm
          exact hm.symm
        · obtain ⟨j, rfl⟩ : ∃ j, m = j + 1 := ⟨m - 1, by omega⟩
          have ne : c ≠ 49 ∧ c ≠ 48 := ⟨fun q => e2 (by rw [q]; decide), fun q => e2 (by rw [q]; decide)⟩
          rw [scan_other j _ ne.1 ne.2] at hm
          exact hm.symm
        · obtain ⟨j, rfl⟩ : ∃ j, m = j + 1 := ⟨m - 1, by omega⟩
          have cs : c = 48 ∨ c = 49 := by
            have : c ∈ [48, 49] := hin
            simpa using this
          refine iteS (fun e1 => ?_) (fun e1 => ?_)
          · have : c = 49 := by
              have := S_inj (a := [c]) (b := [49]) e1
              simpa using this
            subst this
            exact ⟨_, rfl, _, _, rfl, rfl, rfl, j + 2, _, rfl, hm⟩
          · have : c = 48 := by
              rcases cs with h | h
              · exact h
              · exact absurd (by rw [h]; rfl) e1
            subst this
            refine ⟨_, rfl, _, _, rfl, rfl, rfl, j, some (.str (S [48])), ?_, hm⟩
            show [some (V.str (S l)), some (V.int (((j + 1 : Nat) : Int) - 1)), some (V.str (S [48]))] = _
            rw [show ((j + 1 : Nat) : Int) - 1 = (j : Int) by omega]
      · rintro σ' H' ⟨rfl, m, v, rfl, hm⟩
        rw [List.drop_length, scan_nil] at hm
        show Q (.bl (decide (V.int (m : Int) = V.int 0))) H'
        have e : decide (V.int (m : Int) = V.int 0) = decide (scan 1 l = some 0) := by
          rw [← hm]
          by_cases h0 : m = 0
          · rw [h0]; rfl
          · rw [decide_eq_false (fun q => h0 (by have := V.int.inj q; omega)), decide_eq_false (fun q => h0 (Option.some.inj q))]
        rw [e]
        exact k'
  | lst ty => exact ⟨_, false, ty, rfl, k'⟩
  | tup ty => exact ⟨_, false, ty, rfl, k'⟩
  | non => exact ⟨false, rfl, k'⟩
  | int _ => exact ⟨false, rfl, k'⟩
  | bl _ => exact ⟨false, rfl, k'⟩
end
def G_trees_is_tree : List D → W D := fun
  | [.str l] => .chk (l.length ≤ 10000000) (.ok (.bl (isTr l)))
  | _ => .stuck
def F_trees_is_tree : List D → W D := fun ds => W.calm (G_trees_is_tree ds)
theorem br_trees_is_tree {P : Program} {w : World} {K : PySem.W.Frag} {mg : Str → Option Value} {base : Heap} {k : Nat} {g : Str} {ps : List Str} (c : Cal P w K mg base CX0 k g ps (sp_trees_is_tree K mg)) : Cal P w K mg base CX0 k g ps (spF K mg 1 .v F_trees_is_tree) :=
  Cal.bridge G_trees_is_tree c fun ds vs H Q hl r run => by
    obtain ⟨x, rfl⟩ := oneD hl
    obtain ⟨v, rfl, h⟩ := args1 r
    cases x <;> first | (exact False.elim run) | skip
    cases h
    obtain ⟨hn, q⟩ := run
    exact ⟨_, _, rfl, .str hn, q _ H (Ex.refl H) rfl⟩

theorem regs_all {K : PySem.W.Frag} {mg : Str → Option Value} {x0 x1 x2 x3 : Option V} {q : Addr} {x5 : Option V} {ys : List V} {es : List PyData} {H : Hp} {Q : VK} (hq : SqT K H q ys) (ha : DpAll K H ys es) (hl : es.length ≤ 1000) (k : ∀ H', Ex H H' → Q (.bl (es.all regD)) H') :
    tCB (rAll K) (tCons (tLc (iAnyU K (mV 4)) (gName 5) tYes (tAndV (mCall (sp_programs_is_whole K mg) E0 (tCons (mV 5) tNil)) (tChain (rCI fun i j => decide (i ≤ j)) (rCI fun i j => decide (i < j)) (tC (.int 0)) (mV 5) (tC (.int 20)))) [5]) tNil)
      [x0, x1, x2, x3, some (.ref q), x5] H Q := by
  have hz : sizeLine = 16777216 := sizeLine_eq
  have hyl := DpAll.len ha
  refine .inr ⟨⟨_, hq⟩, fun D nD => lc_tup (K := K) (a := q) (xs := ys) (fun i H' => H' = upd H D (.lst ((es.take i).map fun d => V.bl (regD d)))) rfl (fun i H' _ e => by rw [e]; exact Evl.ex_t (Evl.Ex.new nD) hq) ?_ ?_⟩
  · rintro i x H' hx rfl
    obtain ⟨d, hd, hxd⟩ := DpAll.get ha hx
    have exD := Evl.Ex.new (o := .lst ((es.take i).map fun d => V.bl (regD d))) nD
    have last : ∀ b : Bool, b = regD d → ∃ acc, (upd H D (.lst ((es.take i).map fun d => V.bl (regD d)))) D = some (.lst acc) ∧ acc.length < sizeLine ∧ upd (upd H D (.lst ((es.take i).map fun d => V.bl (regD d)))) D (.lst (acc ++ [V.bl b])) = upd H D (.lst ((es.take (i + 1)).map fun d => V.bl (regD d))) := by
      intro b hb
      refine ⟨_, upd_same, by rw [List.length_map, List.length_take]; omega, ?_⟩
      rw [upd_upd, take_map hd, hb]
    refine ⟨rfl, x, d, rfl, Dp.mono exD _ hxd, ?_⟩
    refine ⟨wholeD d, rfl, iteB (fun hw => ?_) (fun hw => ?_)⟩
    · cases hxd with
      | int n =>
        refine ⟨_, rfl, iteD (fun h0 => ?_) (fun h0 => ?_)⟩
        · exact last _ (by show _ = (decide (0 ≤ n) && decide (n < 20)); rw [decide_eq_true h0]; rfl)
        · exact last _ (by show _ = (decide (0 ≤ n) && decide (n < 20)); rw [decide_eq_false h0]; rfl)
      | _ => cases hw
    · refine last _ ?_
      cases d with
      | int n => cases hw
      | _ => rfl
  · rintro H' rfl
    rw [hyl, List.take_length]
    refine ⟨D, es.map regD, rfl, .of (by rw [upd_same, List.map_map]; rfl), ?_⟩
    rw [List.all_map]
    exact k _ (Evl.Ex.new nD)
def sp_programs_is_instruction (K : PySem.W.Frag) (_ : Str → Option Value) : Sp := fun vs H Q _ => ∃ (v : V) (d : PyData) (at_ cnt : Int), vs = [v, .int at_, .int cnt] ∧ Dp K H v d ∧ (∀ a b s, d = .tuple [a, b, .str s] → s.length ≤ 10000000) ∧ (∀ ds, d = .tuple ds → ds.length ≤ 1000) ∧ ∀ H', Ex H H' → Q (.bl (isRowD at_ cnt d)) H'

section
variable {P : Program} {w : World} {K : PySem.W.Frag} {mg : Str → Option Value} {base : Heap}
theorem ok_programs_is_instruction (T : Txt K mg w)
    (c_programs_is_whole : Cal P w K mg base CX0 1 "is_whole" ["value"] (sp_programs_is_whole K mg))
    (c_trees_is_tree : Cal P w K mg base CX0 1 "is_tree" ["value"] (sp_trees_is_tree K mg)) : Cal P w K mg base CX0 2 "is_instruction" ["value", "at", "count"] (sp_programs_is_instruction K mg) := by
  refine T.f_programs_is_instruction.ok sc_programs_is_instruction (fun vs H Q E h => (by obtain ⟨_, _, _, _, rfl, _⟩ := h; rfl)) (fun f cdv A outer s H vs Q E hr h => ⟨_, (pss_cons (ps_if (PW.pt (pw_or (pt_not (nVal (pe_callB (cIsi (K := K)) (by rfl) T.n_isinstance PyProof.Rows.boot_isinstance (pa_cons (nv 0) (pa_cons (nTy T.n_tuple PyProof.Rows.boot_tuple) pa_nil))))) (pw_or (pt_not (pt_truth (nv 0) (by intro _; rfl))) (pw_or (pt_not (nVal (pe_callB (cIsi (K := K)) (by rfl) T.n_isinstance PyProof.Rows.boot_isinstance (pa_cons (pe_ix (ixU (K := K)) (nv 0) pe_int (fun _ _ => rfl)) (pa_cons (nTy T.n_str PyProof.Rows.boot_str) pa_nil))))) (pw_or1 (nCmp (oNotIn (K := K)) (pe_ix (ixU (K := K)) (nv 0) pe_int (fun _ _ => rfl)) (nGlobTK T.m_WORDS) (by rfl))))))) (pss_one (ps_ret pe_bl)) pss_nil)
      (pss_cons (ps_set (i := 3) sc_programs_is_instruction.nd rfl (.inl rfl) (pe_ix (ixU (K := K)) (nv 0) pe_int (fun _ _ => rfl)))
      (pss_cons (ps_if (nCmp (oNe (K := K) hr.units) (pe_callB (cLen (K := K)) (by rfl) T.n_len PySem.boot_len (pa_cons (nv 0) pa_nil)) (nDict T.m_PARTS (nv 3) (fun _ _ => rfl)) (nomark _)) (pss_one (ps_ret pe_bl)) pss_nil)
      (pss_cons (ps_set (i := 4) sc_programs_is_instruction.nd rfl (.inl rfl) (pe_slice (slU (K := K)) (nv 0) (po_some pe_int) po_none))
      (pss_cons (ps_if (nCmp (oEq (K := K) hr.units) (nv 3) pe_str (nomark _)) (pss_cons (ps_if (pt_not (nVal (nCall c_trees_is_tree (hr.mono (by decide)) pass0 (pa_cons (pe_ix (ixU (K := K)) (nv 0) pe_int (fun _ _ => rfl)) pa_nil)))) (pss_one (ps_ret pe_bl)) pss_nil)
      (pss_one (ps_set (i := 4) sc_programs_is_instruction.nd rfl (.inl rfl) (pe_slice (slU (K := K)) (nv 0) (po_some pe_int) (po_some pe_int))))) pss_nil)
      (pss_cons (ps_if (nCmp (oEq (K := K) hr.units) (nv 3) pe_str (nomark _)) (pss_cons (ps_if (PW.pt (pw_or (pt_not (nVal (nCall c_programs_is_whole (hr.mono (by decide)) pass0 (pa_cons (pe_ix (ixU (K := K)) (nv 0) pe_int (fun _ _ => rfl)) pa_nil)))) (pw_or1 (pt_not (pt_chain oLe oLe pe_int (pe_op (oAdd (K := K)) (nv 1) (pe_ix (ixU (K := K)) (nv 0) pe_int (fun _ _ => rfl))) (nv 2)))))) (pss_one (ps_ret pe_bl)) pss_nil)
      (pss_one (ps_set (i := 4) sc_programs_is_instruction.nd rfl (.inl rfl) (pe_slice (slU (K := K)) (nv 0) (po_some pe_int) (po_some pe_int))))) pss_nil)
      (pss_one (ps_ret (pe_callB (cr_all rfl) (by rfl) T.n_all PyProof.Rows.boot_all (pa_cons (pe_lc (own := [("part", 5)]) (g := gName 5) (tt := tYes) rfl sc_programs_is_instruction.nd (piAny (K := K) (nv 4)) (blkOk_by (own := [("part", 5)]) (N := ["value", "at", "count", "word", "registers", "part"]) (sc := defScope s_programs_is_instruction) (by decide +kernel)) (fun _ _ _ _ _ => (pg_name (i := 5) sc_programs_is_instruction.nd rfl (.inl rfl))) (fun _ _ _ _ _ => pts_nil) (fun _ _ _ _ _ => (pe_and (nCall c_programs_is_whole (hr.mono (by decide)) pass0 (pa_cons (nv 5) pa_nil)) (pe_one (pe_chain oLe oLt pe_int (nv 5) (nGlobI T.m_REGISTERS)))))) pa_nil)))))))))), ?_⟩)
  obtain ⟨v, d, at_, cnt, rfl, hd, hs, hn, k⟩ := h
  have hz : sizeLine = 16777216 := sizeLine_eq
  cases hd with
  | non => exact ⟨false, rfl, k _ (Ex.refl _)⟩
  | bl b => exact ⟨false, rfl, k _ (Ex.refl _)⟩
  | int i => exact ⟨false, rfl, k _ (Ex.refl _)⟩
  | str s => exact ⟨false, rfl, k _ (Ex.refl _)⟩
  | lst h _ => exact ⟨_, false, sql_ty h, rfl, k _ (Ex.refl _)⟩
  | @tup a xs ds hx ha =>
    refine ⟨_, true, sqt_ty hx, rfl, ?_⟩
    cases ha with
    | nil => exact ⟨false, .inr (.inl ⟨_, hx, rfl⟩), k _ (Ex.refl _)⟩
    | @cons x0 xr d0 dr h0 hr =>
      refine ⟨true, .inr (.inl ⟨_, hx, rfl⟩), ?_⟩
      refine ⟨_, _, .inr hx, atI_nat (j := 0) rfl, ?_⟩
      have no : (∀ w, d0 ≠ .str w) → ∀ H', Ex H H' → Q (.bl false) H' := fun q H' e => by
        have := k H' e
        rw [isRowD_no q] at this
        exact this
      cases h0 with
      | non => exact ⟨false, rfl, no (fun _ q => by cases q) _ (Ex.refl _)⟩
      | bl b => exact ⟨false, rfl, no (fun _ q => by cases q) _ (Ex.refl _)⟩
      | int i => exact ⟨false, rfl, no (fun _ q => by cases q) _ (Ex.refl _)⟩
      | lst h _ => exact ⟨_, false, sql_ty h, rfl, no (fun _ q => by cases q) _ (Ex.refl _)⟩
      | tup h _ => exact ⟨_, false, sqt_ty h, rfl, no (fun _ q => by cases q) _ (Ex.refl _)⟩
      | str w =>
        refine ⟨true, rfl, _, _, .inr hx, atI_nat (j := 0) rfl, fun wa hwa => ⟨six.map V.str, .inr (hwa H), rfl, by decide +kernel, ?_⟩⟩
        rw [inV_strs]
        refine iteN (fun hw => ?_) (fun hw => ?_)
        · have := k H (Ex.refl H)
          rw [isRowD_word hw] at this
          exact this
        -- the word is one of six: what stands behind its place is its parts
        have xl := DpAll.len hr
        have len : ∀ n : Int, ((((.str w :: xr : List V).length : Nat) : Int) = n) ↔ (dr.length : Int) + 1 = n := fun n => by
          rw [List.length_cons, xl]
          omega
        have hcases : w = "set" ∨ w = "move" ∨ w = "cons" ∨ w = "head" ∨ w = "tail" ∨ w = "jump" := by
          unfold six at hw
          simp only [List.mem_cons, List.not_mem_nil, or_false] at hw
          exact hw
        have out : ∀ {n : Nat}, dr.length ≠ n → n = (if w = "cons" then 3 else 2) → ∀ H', Ex H H' → Q (.bl false) H' := fun h1 h2 H' e => by
          have := k H' e
          rw [isRowD_len (by rw [← h2]; exact h1)] at this
          exact this
        rcases hcases with rfl | rfl | rfl | rfl | rfl | rfl
        · refine ⟨_, _, .inr hx, atI_nat (j := 0) rfl, _, .inr hx, iteNI (fun hne => out (n := 2) (fun e => hne (by rw [len, e]; rfl)) (by decide +kernel) _ (Ex.refl _)) (fun he => ?_)⟩
          have hl : dr.length = 2 := by have := (len _).mp he; omega
          match dr, hr, hl with
          | [d1, d2], .cons (v := x1) h1 (.cons (v := x2) h2 .nil), _ =>
            refine ⟨1, rfl, .inr ⟨a, _, rfl, hx, fun w => absurd (show (1 : Nat) = 0 from w.1) (by decide), fun _ q nq => ?_⟩⟩
            have e1 := Evl.Ex.new (o := .tup (cutV [.str "set", x1, x2] (some 1) none)) nq
            have hx1 := Evl.ex_t e1 hx
            refine ⟨_, _, .inr hx1, rfl, x2, treeD d2, rfl, dp_tr (Dp.mono e1 _ h2) (fun s q => hs (.str "set") d1 s (by rw [q])), ?_⟩
            refine iteB (fun ht => ?_) (fun ht => ?_)
            · have := k _ e1
              have ht' : treeD d2 = false := by
                have : (!treeD d2) = true := ht
                cases q : treeD d2 with
                | false => rfl
                | true => rw [q] at this; cases this
              rw [show isRowD at_ cnt (.tuple [.str "set", d1, d2]) = (treeD d2 && regD d1) from rfl, ht'] at this
              exact this
            · have ht' : treeD d2 = true := by
                have : (!treeD d2) = false := ht
                cases q : treeD d2 with
                | true => rfl
                | false => rw [q] at this; cases this
              refine ⟨1, rfl, 2, rfl, .inr ⟨a, _, rfl, hx1, fun w => absurd (show (1 : Nat) = 0 from w.1) (by decide), fun _ q2 nq2 => ?_⟩⟩
              have e2 := e1.trans (Evl.Ex.new (o := .tup (cutV [.str "set", x1, x2] (some 1) (some 2))) nq2)
              refine regs_all (q := q2) (ys := [x1]) (es := [d1]) (.of upd_same) (.cons (Dp.mono e2 _ h1) .nil) (by show 1 ≤ 1000; decide) (fun H' e => ?_)
              have := k H' (e2.trans e)
              rw [show isRowD at_ cnt (.tuple [.str "set", d1, d2]) = (treeD d2 && regD d1) from rfl, ht'] at this
              rw [show ([d1] : List PyData).all regD = (true && regD d1) by simp]
              exact this
        · refine ⟨_, _, .inr hx, atI_nat (j := 0) rfl, _, .inr hx, iteNI (fun hne => out (n := 2) (fun e => hne (by rw [len, e]; rfl)) (by decide +kernel) _ (Ex.refl _)) (fun he => ?_)⟩
          have hl : dr.length = 2 := by have := (len _).mp he; omega
          match dr, hr, hl with
          | [d1, d2], .cons (v := x1) h1 (.cons (v := x2) h2 .nil), _ =>
            refine ⟨1, rfl, .inr ⟨a, _, rfl, hx, fun w => absurd (show (1 : Nat) = 0 from w.1) (by decide), fun _ q nq => ?_⟩⟩
            have e1 := Evl.Ex.new (o := .tup (cutV [.str "move", x1, x2] (some 1) none)) nq
            refine regs_all (q := q) (ys := [x1, x2]) (es := [d1, d2]) (.of upd_same) (.cons (Dp.mono e1 _ h1) (.cons (Dp.mono e1 _ h2) .nil)) (by show 2 ≤ 1000; decide) (fun H' e => ?_)
            have := k H' (e1.trans e)
            rw [show ([d1, d2] : List PyData).all regD = (regD d1 && regD d2) by simp]
            exact this
        · refine ⟨_, _, .inr hx, atI_nat (j := 0) rfl, _, .inr hx, iteNI (fun hne => out (n := 3) (fun e => hne (by rw [len, e]; rfl)) (by decide +kernel) _ (Ex.refl _)) (fun he => ?_)⟩
          have hl : dr.length = 3 := by have := (len _).mp he; omega
          match dr, hr, hl with
          | [d1, d2, d3], .cons (v := x1) h1 (.cons (v := x2) h2 (.cons (v := x3) h3 .nil)), _ =>
            refine ⟨1, rfl, .inr ⟨a, _, rfl, hx, fun w => absurd (show (1 : Nat) = 0 from w.1) (by decide), fun _ q nq => ?_⟩⟩
            have e1 := Evl.Ex.new (o := .tup (cutV [.str "cons", x1, x2, x3] (some 1) none)) nq
            refine regs_all (q := q) (ys := [x1, x2, x3]) (es := [d1, d2, d3]) (.of upd_same) (.cons (Dp.mono e1 _ h1) (.cons (Dp.mono e1 _ h2) (.cons (Dp.mono e1 _ h3) .nil))) (by show 3 ≤ 1000; decide) (fun H' e => ?_)
            have := k H' (e1.trans e)
            rw [show ([d1, d2, d3] : List PyData).all regD = (regD d1 && (regD d2 && regD d3)) by simp]
            exact this
        · refine ⟨_, _, .inr hx, atI_nat (j := 0) rfl, _, .inr hx, iteNI (fun hne => out (n := 2) (fun e => hne (by rw [len, e]; rfl)) (by decide +kernel) _ (Ex.refl _)) (fun he => ?_)⟩
          have hl : dr.length = 2 := by have := (len _).mp he; omega
          match dr, hr, hl with
          | [d1, d2], .cons (v := x1) h1 (.cons (v := x2) h2 .nil), _ =>
            refine ⟨1, rfl, .inr ⟨a, _, rfl, hx, fun w => absurd (show (1 : Nat) = 0 from w.1) (by decide), fun _ q nq => ?_⟩⟩
            have e1 := Evl.Ex.new (o := .tup (cutV [.str "head", x1, x2] (some 1) none)) nq
            refine regs_all (q := q) (ys := [x1, x2]) (es := [d1, d2]) (.of upd_same) (.cons (Dp.mono e1 _ h1) (.cons (Dp.mono e1 _ h2) .nil)) (by show 2 ≤ 1000; decide) (fun H' e => ?_)
            have := k H' (e1.trans e)
            rw [show ([d1, d2] : List PyData).all regD = (regD d1 && regD d2) by simp]
            exact this
        · refine ⟨_, _, .inr hx, atI_nat (j := 0) rfl, _, .inr hx, iteNI (fun hne => out (n := 2) (fun e => hne (by rw [len, e]; rfl)) (by decide +kernel) _ (Ex.refl _)) (fun he => ?_)⟩
          have hl : dr.length = 2 := by have := (len _).mp he; omega
          match dr, hr, hl with
          | [d1, d2], .cons (v := x1) h1 (.cons (v := x2) h2 .nil), _ =>
            refine ⟨1, rfl, .inr ⟨a, _, rfl, hx, fun w => absurd (show (1 : Nat) = 0 from w.1) (by decide), fun _ q nq => ?_⟩⟩
            have e1 := Evl.Ex.new (o := .tup (cutV [.str "tail", x1, x2] (some 1) none)) nq
            refine regs_all (q := q) (ys := [x1, x2]) (es := [d1, d2]) (.of upd_same) (.cons (Dp.mono e1 _ h1) (.cons (Dp.mono e1 _ h2) .nil)) (by show 2 ≤ 1000; decide) (fun H' e => ?_)
            have := k H' (e1.trans e)
            rw [show ([d1, d2] : List PyData).all regD = (regD d1 && regD d2) by simp]
            exact this
        · refine ⟨_, _, .inr hx, atI_nat (j := 0) rfl, _, .inr hx, iteNI (fun hne => out (n := 2) (fun e => hne (by rw [len, e]; rfl)) (by decide +kernel) _ (Ex.refl _)) (fun he => ?_)⟩
          have hl : dr.length = 2 := by have := (len _).mp he; omega
          match dr, hr, hl with
          | [d1, d2], .cons (v := x1) h1 (.cons (v := x2) h2 .nil), _ =>
            refine ⟨1, rfl, .inr ⟨a, _, rfl, hx, fun w => absurd (show (1 : Nat) = 0 from w.1) (by decide), fun _ q nq => ?_⟩⟩
            have e1 := Evl.Ex.new (o := .tup (cutV [.str "jump", x1, x2] (some 1) none)) nq
            have hx1 := Evl.ex_t e1 hx
            refine ⟨_, _, .inr hx1, rfl, x2, d2, rfl, Dp.mono e1 _ h2, ?_⟩
            have bad : (∀ n : Int, d2 = .int n → ¬ (0 ≤ at_ + n ∧ at_ + n ≤ cnt)) → ∀ H', Ex H H' → Q (.bl false) H' := fun hb H' e => by
              have := k H' e
              have e0 : isRowD at_ cnt (.tuple [.str "jump", d1, d2]) = false := by
                cases d2 with
                | int n =>
                  show ((decide (0 ≤ at_ + n) && decide (at_ + n ≤ cnt)) && regD d1) = false
                  have := hb n rfl
                  by_cases q1 : 0 ≤ at_ + n
                  · rw [decide_eq_true q1, decide_eq_false (fun q2 => this ⟨q1, q2⟩)]; rfl
                  · rw [decide_eq_false q1]; rfl
                | _ => rfl
              rw [e0] at this
              exact this
            refine iteB (fun hw => bad (fun n q => by rw [q] at hw; cases hw) _ e1) (fun hw => ?_)
            cases h2 with
            | int n =>
              refine ⟨_, _, .inr hx1, rfl, ?_⟩
              refine ⟨_, rfl, iteD (fun h0 => ?_) (fun h0 => ?_)⟩
              · refine ⟨_, rfl, iteN (fun h3 => bad (fun m q => by cases q; omega) _ e1) (fun h3 => ?_)⟩
                refine ⟨1, rfl, 2, rfl, .inr ⟨a, _, rfl, hx1, fun w => absurd (show (1 : Nat) = 0 from w.1) (by decide), fun _ q2 nq2 => ?_⟩⟩
                have e2 := e1.trans (Evl.Ex.new (o := .tup (cutV [.str "jump", x1, .int n] (some 1) (some 2))) nq2)
                refine regs_all (q := q2) (ys := [x1]) (es := [d1]) (.of upd_same) (.cons (Dp.mono e2 _ h1) .nil) (by show 1 ≤ 1000; decide) (fun H' e => ?_)
                have := k H' (e2.trans e)
                rw [show isRowD at_ cnt (.tuple [.str "jump", d1, .int n]) = ((decide (0 ≤ at_ + n) && decide (at_ + n ≤ cnt)) && regD d1) from rfl, decide_eq_true h0, decide_eq_true h3] at this
                rw [show ([d1] : List PyData).all regD = (true && regD d1) by simp]
                exact this
              · exact ⟨_, rfl, bad (fun m q => by cases q; omega) _ e1⟩
            | _ => cases hw
end
def sp_programs_is_program (K : PySem.W.Frag) (_ : Str → Option Value) : Sp := fun vs H Q _ => ∃ (v : V) (d : PyData), vs = [v] ∧ Dp K H v d ∧ askD d ∧ ∀ H', Ex H H' → Q (.bl (isProgD d)) H'

section
variable {P : Program} {w : World} {K : PySem.W.Frag} {mg : Str → Option Value} {base : Heap}
theorem ok_programs_is_program (T : Txt K mg w)
    (c_programs_is_instruction : Cal P w K mg base CX0 2 "is_instruction" ["value", "at", "count"] (sp_programs_is_instruction K mg)) : Cal P w K mg base CX0 3 "is_program" ["value"] (sp_programs_is_program K mg) := by
  refine T.f_programs_is_program.ok sc_programs_is_program (fun vs H Q E h => (by obtain ⟨_, _, rfl, _⟩ := h; rfl)) (fun f cdv A outer s H vs Q E hr h => ⟨_, (pss_cons (ps_if (PW.pt (pw_or (pt_not (nVal (pe_callB (cIsi (K := K)) (by rfl) T.n_isinstance PyProof.Rows.boot_isinstance (pa_cons (nv 0) (pa_cons (nTy T.n_list PyProof.Rows.boot_list) pa_nil))))) (pw_or1 (nCmp oGt (pe_callB (cLen (K := K)) (by rfl) T.n_len PySem.boot_len (pa_cons (nv 0) pa_nil)) (nGlobI T.m_MOST_CODE) (nomark _))))) (pss_one (ps_ret pe_bl)) pss_nil)
      (pss_cons (ps_if (pt_not (nVal (pe_callB (cr_all rfl) (by rfl) T.n_all PyProof.Rows.boot_all (pa_cons (pe_lc (own := [("at", 1), ("row", 2)]) (g := gTup K 2 (gCons (gName 1) (gCons (gName 2) (gNil)))) (tt := tYes) rfl sc_programs_is_program.nd (pi_enum (by rfl) T.n_enumerate (pa_cons (nv 0) pa_nil)) (blkOk_by (own := [("at", 1), ("row", 2)]) (N := ["value", "at", "row"]) (sc := defScope s_programs_is_program) (by decide +kernel)) (fun _ _ _ _ _ => (pg_tup rfl (pgs_cons (pg_name (i := 1) sc_programs_is_program.nd rfl (.inl rfl) (.inr rfl)) (pgs_cons (pg_name (i := 2) sc_programs_is_program.nd rfl (.inl rfl) (.inr rfl)) pgs_nil)))) (fun _ _ _ _ _ => pts_nil) (fun _ _ _ _ _ => (nCall c_programs_is_instruction (hr.mono (by decide)) pass0 (pa_cons (nv 2) (pa_cons (nv 1) (pa_cons (pe_callB (cLen (K := K)) (by rfl) T.n_len PySem.boot_len (pa_cons (nv 0) pa_nil)) pa_nil)))))) pa_nil)))) (pss_one (ps_ret pe_bl)) pss_nil)
      (pss_one (ps_ret (pe_cmpR oLe (pe_callB (cr_sum rfl) (by rfl) T.n_sum PyProof.Rows.boot_sum (pa_cons (pe_lc (own := [("row", 2)]) (g := gName 2) rfl sc_programs_is_program.nd (piAny (K := K) (nv 0)) (blkOk_by (own := [("row", 2)]) (N := ["value", "at", "row"]) (sc := defScope s_programs_is_program) (by decide +kernel)) (fun _ _ _ _ _ => (pg_name (i := 2) sc_programs_is_program.nd rfl (.inl rfl))) (fun _ _ _ _ _ => pts_one (nCmp (oEq (K := K) hr.units) (pe_ix (ixU (K := K)) (nv 2) pe_int (fun _ _ => rfl)) pe_str (nomark _))) (fun _ _ _ _ _ => (pe_callB (cLen (K := K)) (by rfl) T.n_len PySem.boot_len (pa_cons (pe_ix (ixU (K := K)) (nv 2) pe_int (fun _ _ => rfl)) pa_nil)))) pa_nil)) (nGlobI T.m_MOST_TREE) (nomark _)))))), ?_⟩)
  obtain ⟨v, d, rfl, hd, hask, k⟩ := h
  have hz : sizeLine = 16777216 := sizeLine_eq
  cases hd with
  | non => exact ⟨false, rfl, k _ (Ex.refl _)⟩
  | bl b => exact ⟨false, rfl, k _ (Ex.refl _)⟩
  | int i => exact ⟨false, rfl, k _ (Ex.refl _)⟩
  | str s => exact ⟨false, rfl, k _ (Ex.refl _)⟩
  | tup h _ => exact ⟨_, false, sqt_ty h, rfl, k _ (Ex.refl _)⟩
  | @lst a xs ds hx ha =>
    obtain ⟨as1, as2⟩ := hask ds rfl
    have xl := DpAll.len ha
    refine ⟨_, true, sql_ty hx, rfl, _, .inl hx, ?_⟩
    refine iteD (fun hg => ?_) (fun hg => ?_)
    · have := k H (Ex.refl H)
      rw [show isProgD (.list ds) = (decide (ds.length ≤ 600) && (rowsD ds.length 0 ds && decide ((ds.map setLen).sum ≤ 200000))) from rfl, decide_eq_false (by omega), Bool.false_and] at this
      exact this
    have hle : ds.length ≤ 600 := by omega
    rw [show isProgD (.list ds) = (decide (ds.length ≤ 600) && (rowsD ds.length 0 ds && decide ((ds.map setLen).sum ≤ 200000))) from rfl, decide_eq_true hle, Bool.true_and] at k
    -- every row
    refine ⟨a, xs, rfl, hx, fun D nD => walk_enum (K := K) (a := a) (xs := xs) (fun i H' => Ex H H' ∧ H' D = some (.lst ((flagsD ds.length 0 (ds.take i)).map V.bl))) ⟨Evl.Ex.new nD, upd_same⟩ (fun i H' _ e => Evl.ex_l e.1 hx) ?_ ?_⟩
    · rintro i x H' T hx' ⟨ex, hD⟩ nT
      obtain ⟨d, hd, hxd⟩ := DpAll.get ha hx'
      have hi : i < ds.length := (List.getElem?_eq_some_iff.mp hd).1
      have e1 := Evl.Ex.new (o := .tup [.int (i : Nat), x]) nT
      have ex1 := ex.trans e1
      have hD1 := e1 _ _ hD
      refine ⟨T, _, rfl, .of upd_same, rfl, _, _, rfl, _, _, rfl, rfl, rfl, ?_⟩
      generalize upd H' T (.tup [.int (i : Nat), x]) = H1 at e1 ex1 hD1 ⊢
      refine ⟨_, .inl (Evl.ex_l ex1 hx), x, d, i, ds.length, by rw [xl], Dp.mono ex1 _ hxd, fun a b s q => as1 a b s (by rw [← q]; exact mem_of_get hd), fun es q => as2 es (by rw [← q]; exact mem_of_get hd), fun H2 e2 => ?_⟩
      have hD2 := e2 _ _ hD1
      refine ⟨_, hD2, by rw [List.length_map, flags_len, List.length_take]; omega, Evl.Ex.mut (ex1.trans e2) nD, ?_⟩
      rw [upd_same, List.take_add_one, hd]
      show some (HO.lst (_ ++ [V.bl (isRowD (i : Nat) ds.length d)])) = some (.lst ((flagsD ds.length 0 (ds.take i ++ [d])).map V.bl))
      rw [flags_snoc, List.map_append, List.length_take, Nat.min_eq_left (by omega), Nat.zero_add]
      rfl
    · rintro H1 ⟨ex, hD⟩
      rw [xl, List.take_length] at hD
      refine ⟨D, _, rfl, .of hD, ?_⟩
      rw [flags_all]
      refine iteB (fun hb => ?_) (fun hb => ?_)
      · have hb' : rowsD ds.length 0 ds = false := by
          have : (!rowsD ds.length 0 ds) = true := hb
          cases q : rowsD ds.length 0 ds with
          | false => rfl
          | true => rw [q] at this; cases this
        rw [hb'] at k
        exact k H1 ex
      have hb' : rowsD ds.length 0 ds = true := by
        have : (!rowsD ds.length 0 ds) = false := hb
        cases q : rowsD ds.length 0 ds with
        | true => rfl
        | false => rw [q] at this; cases this
      rw [hb', Bool.true_and] at k
      -- the trees together
      have hx1 := Evl.ex_l ex hx
      refine .inl ⟨⟨_, hx1⟩, fun S0 nS => lc_list (K := K) (a := a) (xs := xs) (fun i H' => H' = upd H1 S0 (.lst ((((ds.take i).map setL).flatten).map V.int))) rfl (fun i H' _ e => by rw [e]; exact Evl.ex_l (Evl.Ex.new nS) hx1) ?_ ?_⟩
      · rintro i x H' hx' rfl
        obtain ⟨d, hd, hxd⟩ := DpAll.get ha hx'
        have hi : i < ds.length := (List.getElem?_eq_some_iff.mp hd).1
        have hrow := rowsD_get hb' hd
        have e2 := Evl.Ex.new (o := .lst ((((ds.take i).map setL).flatten).map V.int)) nS
        have hxd2 := Dp.mono (ex.trans e2) _ hxd
        have step : ((ds.take (i + 1)).map setL).flatten = ((ds.take i).map setL).flatten ++ setL d := by
          rw [take_map hd, List.flatten_append, List.flatten_singleton]
        refine ⟨rfl, ?_⟩
        rcases row_form hrow with ⟨a1, t, rfl, ht⟩ | ⟨w, es, rfl, hw, hs⟩
        · cases hxd2 with
          | @tup p ys _ hp hys =>
            cases hys with
            | cons q1 q2 => cases q1 with
              | str => cases q2 with
                | cons q3 q4 => cases q4 with
                  | cons q5 q6 => cases q5 with
                    | str =>
                      cases q6
                      refine ⟨_, _, .inr hp, rfl, ?_⟩
                      refine ⟨_, _, .inr hp, rfl, by omega, _, upd_same, ?_, ?_⟩
                      · rw [List.length_map]
                        have : ∀ l : List PyData, ((l.map setL).flatten).length ≤ l.length := by
                          intro l
                          induction l with
                          | nil => exact Nat.zero_le _
                          | cons d l ih =>
                            rw [List.map_cons, List.flatten_cons, List.length_append, List.length_cons]
                            have : (setL d).length ≤ 1 := by
                              unfold setL
                              split
                              · split <;> simp
                              · simp
                            omega
                        have h2 := this (ds.take i)
                        rw [List.length_take] at h2
                        omega
                      · rw [upd_upd, step, List.map_append]
                        rfl
        · cases hxd2 with
          | @tup p ys _ hp hys =>
            cases hys with
            | cons q1 q2 => cases q1 with
              | str =>
                refine ⟨_, _, .inr hp, atI_nat (j := 0) rfl, iteS (fun q => absurd q hw) (fun _ => ?_)⟩
                show upd H1 S0 _ = _
                rw [step, hs, List.append_nil]
      · rintro H' rfl
        rw [xl, List.take_length]
        refine ⟨S0, ((ds.map setL).flatten), rfl, .of upd_same, ?_⟩
        rw [setL_sum]
        have e3 := ex.trans (Evl.Ex.new (o := .lst (((ds.map setL).flatten).map V.int)) nS)
        have := k _ e3
        have e4 : decide ((ds.map setLen).sum ≤ 200000) = decide ((((ds.map setLen).sum : Nat) : Int) ≤ 200000) := by
          by_cases q : (ds.map setLen).sum ≤ 200000
          · rw [decide_eq_true q, decide_eq_true (by omega)]
          · rw [decide_eq_false q, decide_eq_false (by omega)]
        rw [e4] at this
        exact this
end
def G_programs_is_program : List D → W D := fun
  | [x] => .chk (x.flat 64 = true ∧ askD x.py) (.ok (.bl (isProgD x.py)))
  | _ => .stuck
def F_programs_is_program : List D → W D := fun ds => W.calm (G_programs_is_program ds)
theorem br_programs_is_program {P : Program} {w : World} {K : PySem.W.Frag} {mg : Str → Option Value} {base : Heap} {k : Nat} {g : Str} {ps : List Str} (c : Cal P w K mg base CX0 k g ps (sp_programs_is_program K mg)) : Cal P w K mg base CX0 k g ps (spF K mg 1 .v F_programs_is_program) :=
  Cal.bridge G_programs_is_program c fun ds vs H Q hl r run => by
    obtain ⟨x, rfl⟩ := oneD hl
    obtain ⟨v, rfl, h⟩ := args1 r
    exact ⟨v, x.py, rfl, Dx.dp x 64 run.1.1 h, run.1.2, fun H' e => run.2 _ H' e rfl⟩
theorem isprog_ok {rows : List Row} {q : D → Prop} {e : Str → Prop} (ht : ∀ r ∈ rows, ∀ t, r.tree = some t → t.enc.length ≤ 10000000) (h : q (.bl (isProgD (prgD rows)))) : (F_programs_is_program [prgX rows]).run q e := by
  refine ⟨⟨prg_flat64 rows, by rw [prg_py]; exact prg_ask ht⟩, ?_⟩
  rw [prg_py]
  exact h

def F_programs_parse_number_s2 : Env → W Out :=
      (fSeq (fIfS (fOr (fNot (fT (fChain (dCI fun i j => decide (i ≤ j)) (dCI fun i j => decide (i ≤ j)) (fC (.int (1))) (fUn dLen (fV 1)) (fC (.int (5)))))) (fNot (fT (fUn dAll (fLc (fItems (fV 1)) (fgN 2) fYes (fOp dIn (fV 2) (fC (.str [48, 49, 50, 51, 52, 53, 54, 55, 56, 57]))) [2])))))
      (fRaise "BadText")
      fNext)
      (fSeq (fSet 3 (fUn dInt (fV 0)))
      (fSeq (fIfS (fT (fOp dNe (fUn dStr (fV 3)) (fV 0)))
      (fRaise "BadText")
      fNext)
      (fRet (fV 3)))))
def F_programs_parse_number : List D → W D := defF 4
      (fSeq (fSet 1 (fV 0))
      (fSeq (fIfS (fT (fOp dEq (fSl (fV 0) fNo (fSome (fC (.int (1))))) (fC (.str [45]))))
      (fSet 1 (fSl (fV 0) (fSome (fC (.int (1)))) fNo))
      fNext)
      F_programs_parse_number_s2))
theorem num_rest {l : List Nat} {q : D → Prop} {e : Str → Prop} (hl : l.length ≤ 10000000) (h1 : ∀ n : Int, l = intL n → n.natAbs < 100000 → q (.int n)) (h2 : (∀ n : Int, l = intL n → ¬ n.natAbs < 100000) → e "BadText") : (F_programs_parse_number_s2 [some (.str l), some (.str (plainL l)), none, none]).rn (Kdef q) e := by
  have pl := plain_len l
  have bad : ¬ NumText.AllDigits (plainL l) ∨ ¬ (1 ≤ (plainL l).length ∧ (plainL l).length ≤ 5) → e "BadText" := fun hb => h2 fun n hn hs => by
    have e1 := plain_int n
    rw [← hn] at e1
    have h3 := TL.numL_len (n := n.natAbs) (k := 5) (by decide) hs
    have h4 : 0 < (TL.numL n.natAbs).length := List.length_pos_iff.mpr (TL.numL_ne _)
    rw [← e1] at h3 h4
    rcases hb with hb | hb
    · exact hb (by rw [e1]; exact TL.numL_digits _)
    · exact hb ⟨h4, h3⟩
  unfold F_programs_parse_number_s2
  walk_at "w"
  refine wo_lens (by omega) ?_
  walk_at "w"
  have go : ∀ b : Bool, b = decide (1 ≤ (plainL l).length ∧ (plainL l).length ≤ 5) → True := fun _ _ => trivial
  refine wk_dec (fun g1 => ?_) (fun g1 => ?_)
  · walk_at "w"
    refine wk_nif (fun g2 => ?_) (fun g2 => ?_)
    · have g2 := of_decide_eq_true g2
      walk_at "w"
      refine ⟨(by rw [List.length_map]; omega : ((plainL l).map fun c => D.str [c]).length ≤ 16777216), w_out (lcGo_map (fun c => D.bl (decide (c ∈ digitsS))) (fun c hc => ?_) ?_)⟩
      · refine w_in ?_
        walk_at "w"
        rfl
      · have e1 : (plainL l).map (fun c => D.bl (decide (c ∈ digitsS))) = ((plainL l).map fun c => decide (c ∈ digitsS)).map D.bl := by rw [List.map_map]; rfl
        rw [e1]
        refine wo_all ?_
        walk_at "w"
        refine wk_nif (fun g3 => ?_) (fun g3 => ?_)
        · have g3 := all_digits.mp g3
          have hne : plainL l ≠ [] := fun e => by rw [e] at g1; simp at g1
          walk_at "w"
          refine wo_intt (int_plain g3 hne (by omega)) (by omega) ?_
          generalize hn : (if l.take 1 = [45] then -((NumText.digitsVal (plainL l) : Nat) : Int) else ((NumText.digitsVal (plainL l) : Nat) : Int)) = n
          have ha : n.natAbs = NumText.digitsVal (plainL l) := by rw [← hn]; split <;> omega
          have hv := digitsVal_lt _ _ (Nat.le_refl _) g3
          have hp : 10 ^ (plainL l).length ≤ 10 ^ 5 := Nat.pow_le_pow_right (by decide) (by omega)
          have hs : n.natAbs < 100000 := by rw [ha]; have : (10 : Nat) ^ 5 = 100000 := by decide
                                            omega
          walk_at "w"
          refine wo_stri (log_small (by omega)) ?_
          walk_at "w"
          refine wk_nif (fun g4 => ?_) (fun g4 => ?_)
          · have g4 := of_decide_eq_true g4
            walk_at "w"
            exact h1 n g4.symm hs
          · have g4 := of_decide_eq_false g4
            walk_at "w"
            refine h2 fun m hm hsm => ?_
            have e2 := plain_int m
            rw [← hm] at e2
            have e3 := TL.numL_val m.natAbs
            rw [← e2] at e3
            refine g4 ?_
            have : n = m := by
              rw [← hn, e3]
              by_cases hneg : m < 0
              · have : l.take 1 = [45] := by rw [hm]; unfold intL; rw [if_pos hneg]; rfl
                rw [if_pos this]; omega
              · have : l.take 1 ≠ [45] := fun e => by
                  rw [hm] at e
                  unfold intL at e
                  rw [if_neg hneg] at e
                  have := TL.numL_digits m.natAbs 45 (List.mem_of_mem_take (i := 1) (by rw [e]; simp))
                  omega
                rw [if_neg this]; omega
            rw [this, hm]
        · walk_at "w"
          refine bad (.inl fun h => ?_)
          rw [all_digits.mpr h] at g3
          cases g3
    · have g2 := of_decide_eq_false g2
      walk_at "w"
      exact bad (.inr fun h => g2 (by omega))
  · walk_at "w"
    exact bad (.inr fun h => g1 (by omega))
theorem parse_number_ok {l : List Nat} {q : D → Prop} {e : Str → Prop} (hl : l.length ≤ 10000000) (h1 : ∀ n : Int, l = intL n → n.natAbs < 100000 → q (.int n)) (h2 : (∀ n : Int, l = intL n → ¬ n.natAbs < 100000) → e "BadText") : (F_programs_parse_number [.str l]).run q e := by
  have k := num_rest hl h1 h2
  unfold F_programs_parse_number
  walk_at "d"
  refine wo_sls (by omega) ?_
  rw [take1_cut]
  walk_at "w"
  refine wk_dec (fun g => ?_) (fun g => ?_)
  · walk_at "w"
    refine wo_sls (by omega) ?_
    rw [drop1_cut]
    walk_at "w"
    have e1 : plainL l = l.drop 1 := by unfold plainL; rw [if_pos g]
    rw [e1] at k
    exact k
  · walk_at "w"
    have e1 : plainL l = l := by unfold plainL; rw [if_neg g]
    rw [e1] at k
    exact k

section
variable {P : Program} {w : World} {K : PySem.W.Frag} {mg : Str → Option Value} {base : Heap}
theorem ok_programs_parse_number (T : Txt K mg w) : Cal P w K mg base (L2.CX P w) 1 "parse_number" ["word"] (spF K mg 1 .v F_programs_parse_number) := by
  refine T.f_programs_parse_number.okX sc_programs_parse_number (fun vs H Q E h => spF_len h) (fun f cdv A outer s H vs Q E hr h => ?_)
  have tk := takes_of (X := cxOf (L2.CX P w) P w K mg base ["word", "plain", "sign", "value"] "parse_number" (defScope s_programs_parse_number) f cdv A outer s H E) rfl rfl rfl rfl
  exact ⟨_, (pss_cons (ps_set (i := 1) sc_programs_parse_number.nd rfl (.inl rfl) (nv 0))
      (pss_cons (ps_if (nCmp (oEq (K := K) hr.units) (pe_slice (slU (K := K)) (nv 0) po_none (po_some pe_int)) pe_str (nomark _)) (pss_one (ps_set (i := 1) sc_programs_parse_number.nd rfl (.inl rfl) (pe_slice (slU (K := K)) (nv 0) (po_some pe_int) po_none))) pss_nil)
      (pss_cons (ps_if (PW.pt (pw_or (pt_not (pt_chain oLe oLe pe_int (pe_callB (cLen (K := K)) (by rfl) T.n_len PySem.boot_len (pa_cons (nv 1) pa_nil)) pe_int)) (pw_or1 (pt_not (nVal (pe_callB (cr_all rfl) (by rfl) T.n_all PyProof.Rows.boot_all (pa_cons (pe_lc (own := [("sign", 2)]) (g := gName 2) (tt := tYes) rfl sc_programs_parse_number.nd (piAny (K := K) (nv 1)) (blkOk_by (own := [("sign", 2)]) (N := ["word", "plain", "sign", "value"]) (sc := defScope s_programs_parse_number) (by decide +kernel)) (fun _ _ _ _ _ => (pg_name (i := 2) sc_programs_parse_number.nd rfl (.inl rfl))) (fun _ _ _ _ _ => pts_nil) (fun _ _ _ _ _ => (pe_cmpR (oIn (K := K)) (nv 2) (nGlobS T.m_DIGITS) (by rfl)))) pa_nil))))))) (pss_one (ps_raise rfl tk (nMk T.x_BadText))) pss_nil)
      (pss_cons (ps_set (i := 3) sc_programs_parse_number.nd rfl (.inl rfl) (pe_callTy cIntA (by rfl) T.n_int PyProof.Rows.boot_int (pa_cons (nv 0) pa_nil)))
      (pss_cons (ps_if (nCmp (oNe (K := K) hr.units) (pe_callTy cStr (by rfl) T.n_str PyProof.Rows.boot_str (pa_cons (nv 3) pa_nil)) (nv 0) (nomark _)) (pss_one (ps_raise rfl tk (nMk T.x_BadText))) pss_nil)
      (pss_one (ps_ret (nv 3)))))))),
    sd_def (m := .v) (oN := []) (oB := []) (oC := []) (fun q => nomatch q)
      (sd_seq (o1 := []) (sd_set (oN := []) (pd_v (by decide)) (by decide) (by decide) (by decide))
      (sd_seq (o1 := []) (sd_if (pdt_v (pd_op rd_eq (pd_sl (PD.s (pd_v (by decide))) pdo_no (pdo_some pd_int)) (PD.s (pd_str [45] (by rfl)))))
      (sd_set (oN := []) (pd_sl (PD.s (pd_v (by decide))) (pdo_some pd_int) pdo_no) (by decide) (by decide) (by decide))
      sd_next)
      (sd_seq (o1 := []) (sd_if (pdt_or (pdt_not (pdt_test (pd_chain rd_ci rd_ci (PD.s pd_int) (pd_cb1 rc_len (PD.s (pd_v (by decide)))) (PD.s pd_int)))) (pdt_not (pdt_v (pd_cb1 rc_all (pd_lc (vs := [2]) (pdi_any (PD.s (pd_v (by decide)))) (pgd_n (by decide) (by decide)) pdt_yes (pd_op rd_in (PD.s (pd_v (by decide))) (PD.s (pd_str [48, 49, 50, 51, 52, 53, 54, 55, 56, 57] (by rfl)))))))))
      (sd_raise (fun _ _ _ h => h))
      sd_next)
      (sd_seq (o1 := []) (sd_set (oN := []) (pd_cb1 rc_int (PD.s (pd_v (by decide)))) (by decide) (by decide) (by decide))
      (sd_seq (o1 := []) (sd_if (pdt_v (pd_op rd_ne (pd_cb1 rc_str (PD.s (pd_v (by decide)))) (PD.s (pd_v (by decide)))))
      (sd_raise (fun _ _ _ h => h))
      sd_next)
      (sd_ret (pd_v (by decide)))))))) h⟩
end
def F_programs_parse_row : List D → W D := defF 3
      (fSeq (fSet 1 (fSplit (fV 0) (fC (.str [32]))))
      (fSeq (fIfS (fOr (fT (fOp dNotIn (fOp dIx (fV 1) (fC (.int (0)))) (fC (.tup [D.str [115, 101, 116], D.str [109, 111, 118, 101], D.str [99, 111, 110, 115], D.str [104, 101, 97, 100], D.str [116, 97, 105, 108], D.str [106, 117, 109, 112]])))) (fT (fOp dNe (fUn dLen (fV 1)) (fUn (dDict [([115, 101, 116], D.int (3)), ([109, 111, 118, 101], D.int (3)), ([99, 111, 110, 115], D.int (4)), ([104, 101, 97, 100], D.int (3)), ([116, 97, 105, 108], D.int (3)), ([106, 117, 109, 112], D.int (3))]) (fOp dIx (fV 1) (fC (.int (0))))))))
      (fRaise "BadText")
      fNext)
      (fSeq (fIfS (fT (fOp dEq (fOp dIx (fV 1) (fC (.int (0)))) (fC (.str [115, 101, 116]))))
      (fRet (fTup (fCons (fC (.str [115, 101, 116])) (fCons (fCall F_programs_parse_number (fCons (fOp dIx (fV 1) (fC (.int (1)))) fNil)) (fCons (fOp dIx (fV 1) (fC (.int (2)))) fNil)))))
      fNext)
      (fRet (fOp dAdd (fTup (fCons (fOp dIx (fV 1) (fC (.int (0)))) fNil)) (fUn dToTup (fLcX (fItems (fSl (fV 1) (fSome (fC (.int (1)))) fNo)) (fgN 2) fYes (fCall F_programs_parse_number (fCons (fV 2) fNil)) [2])))))))
theorem wn_six {w : List Nat} {qb : Bool → Prop} {e : Str → Prop} (h : qb (decide (w ∈ [wSet, wMove, wCons, wHead, wTail, wJump]))) : (dInB (.str w) (.tup [D.str [115, 101, 116], D.str [109, 111, 118, 101], D.str [99, 111, 110, 115], D.str [104, 101, 97, 100], D.str [116, 97, 105, 108], D.str [106, 117, 109, 112]])).rn qb e := by
  refine wn_tup rfl rfl ?_
  have e1 : ([D.str [115, 101, 116], D.str [109, 111, 118, 101], D.str [99, 111, 110, 115], D.str [104, 101, 97, 100], D.str [116, 97, 105, 108], D.str [106, 117, 109, 112]].any fun y => eqD y (.str w)) = decide (w ∈ [wSet, wMove, wCons, wHead, wTail, wJump]) := by
    show (decide (wSet = w) || (decide (wMove = w) || (decide (wCons = w) || (decide (wHead = w) || (decide (wTail = w) || (decide (wJump = w) || false)))))) = _
    simp only [List.mem_cons, List.not_mem_nil, or_false, Bool.or_false, Bool.decide_or, eq_comm (a := w)]
  rw [e1]; exact h
theorem wo_dict {kv : List (List Nat × D)} {l : List Nat} {d : D} {qd : D → Prop} {e : Str → Prop} (g : kv.lookup l = some d) (h : qd d) : (dDict kv (.str l)).rn qd e := by
  dsimp only [dDict]; rw [g]; exact h
theorem parse_row_ok {l : List Nat} {q : D → Prop} {e : Str → Prop} (hl : l.length ≤ 1000000) (h1 : ∀ z : ZRow, z.ok → z.small 100000 → l = z.txt → q z.x) (h2 : (∀ z : ZRow, z.ok → l = z.txt → ¬ z.small 100000) → e "BadText") : (F_programs_parse_row [.str l]).run q e := by
  obtain ⟨w, rest, hs⟩ : ∃ w rest, TL.spl [32] 0 [] l = w :: rest := by
    cases h : TL.spl [32] 0 [] l with
    | nil => exact absurd h (spl_ne _ _ _ _)
    | cons w r => exact ⟨w, r, rfl⟩
  have hfree : ∀ x ∈ w :: rest, 32 ∉ x := fun x hx => split_free l.length l [] (Nat.le_refl _) (fun z => nomatch z) x (by rw [hs]; exact hx)
  have hlen : ∀ x ∈ w :: rest, x.length ≤ 10000000 := fun x hx => Nat.le_trans (split_len (S := [32]) (by decide) (by rw [hs]; exact hx)) (by omega)
  have hws : ∀ z : ZRow, z.ok → l = z.txt → w :: rest = z.ws := fun z ok hz => by rw [← hs, hz, spl_txt ok]
  have hof : ∀ z : ZRow, w :: rest = z.ws → l = z.txt := fun z hz => txt_of (by rw [hs, hz])
  have mem : ∀ z : ZRow, z.ok → w :: rest = z.ws → w ∈ [wSet, wMove, wCons, wHead, wTail, wJump] := fun z ok hz => by
    cases z with
    | set a t => injection hz with h _; rw [h]; decide
    | two v a b =>
      injection hz with h _
      rw [h]
      rcases ok with rfl | rfl | rfl | rfl <;> decide
    | three a b c => injection hz with h _; rw [h]; decide
  have hmany := split_many (S := [32]) (by decide) l
  rw [hs] at hmany
  unfold F_programs_parse_row
  walk_at "d"
  refine wo_split (by decide) (by decide) (by omega) ?_
  rw [hs, List.map_cons]
  walk_at "w"
  refine wn_six ?_
  refine wk_nif (fun g => ?_) (fun g => ?_)
  · have g := of_decide_eq_true g
    have pn : ∀ {x : List Nat} {k : D → Prop}, x ∈ w :: rest → (∀ n : Int, x = intL n → n.natAbs < 100000 → k (.int n)) → ((∀ n : Int, x = intL n → ¬ n.natAbs < 100000) → e "BadText") → (F_programs_parse_number [.str x]).run k e := fun {x k} hx k1 k2 => parse_number_ok (hlen x hx) k1 k2
    have bad3 : ¬ rest.length = 2 → w ≠ wCons → e "BadText" := fun hr hw => h2 fun z ok hz hsm => by
      have hz := hws z ok hz
      cases z with
      | set a t => injection hz with _ hz; exact hr (by rw [hz]; rfl)
      | two v a b => injection hz with _ hz; exact hr (by rw [hz]; rfl)
      | three a b c => injection hz with hz _; exact hw hz
    have bad4 : ¬ rest.length = 3 → w = wCons → e "BadText" := fun hr hw => h2 fun z ok hz hsm => by
      have hz := hws z ok hz
      cases z with
      | set a t => injection hz with hz _; rw [hw] at hz; exact absurd hz (by decide)
      | two v a b =>
        injection hz with hz _
        rw [hw] at hz
        rcases ok with rfl | rfl | rfl | rfl <;> exact absurd hz (by decide)
      | three a b c => injection hz with _ hz; exact hr (by rw [hz]; rfl)
    have two : ∀ a b, rest = [a, b] → ∀ {k : List D → Prop}, w = wMove ∨ w = wHead ∨ w = wTail ∨ w = wJump → (∀ m n : Int, q (ZRow.two w m n).x → k [.int m, .int n]) →
        (F_programs_parse_number [.str a]).run (fun x => (F_programs_parse_number [.str b]).run (fun y => k [x, y]) e) e := fun a b hr k hw hk => by
      subst hr
      refine pn (by simp) (fun m hm hms => ?_) (fun no => h2 fun z ok hz hsm => ?_)
      · refine pn (by simp) (fun n hn hns => ?_) (fun no => h2 fun z ok hz hsm => ?_)
        · refine hk m n (h1 (.two w m n) hw ?_ (hof _ (by rw [hm, hn]; rfl)))
          intro x hx
          simp only [ZRow.ints, List.mem_cons, List.not_mem_nil, or_false] at hx
          rcases hx with rfl | rfl
          · exact hms
          · exact hns
        · have hz := hws z ok hz
          cases z with
          | set a t => injection hz with hz _; subst hz; rcases hw with h | h | h | h <;> exact absurd h (by decide)
          | two v a' b' => simp only [ZRow.ws, List.cons.injEq, and_true] at hz; exact no b' hz.2.2 (hsm b' (by simp [ZRow.ints]))
          | three a b c => simp [ZRow.ws] at hz
      · have hz := hws z ok hz
        cases z with
        | set a t => injection hz with hz _; subst hz; rcases hw with h | h | h | h <;> exact absurd h (by decide)
        | two v a' b' => simp only [ZRow.ws, List.cons.injEq, and_true] at hz; exact no a' hz.2.1 (hsm a' (by simp [ZRow.ints]))
        | three a b c => simp [ZRow.ws] at hz
    have len2 : rest.length = 2 → ∃ a b, rest = [a, b] := fun h => match rest, h with
      | [a, b], _ => ⟨a, b, rfl⟩
    have len3 : rest.length = 3 → ∃ a b c, rest = [a, b, c] := fun h => match rest, h with
      | [a, b, c], _ => ⟨a, b, c, rfl⟩
    walk_at "w"
    simp only [List.mem_cons, List.not_mem_nil, or_false] at g
    rcases g with rfl | rfl | rfl | rfl | rfl | rfl
    · refine wo_dict rfl ?_
      walk_at "w"
      refine wk_nif (fun g => ?_) (fun g => ?_)
      · have g := of_decide_eq_true g
        rw [List.length_cons, List.length_map] at g
        obtain ⟨a, t, rfl⟩ := len2 (by omega)
        simp only [List.map_cons, List.map_nil]
        walk_at "w"
        refine pn (by simp) (fun m hm hms => ?_) (fun no => h2 fun z ok hz hsm => ?_)
        · walk_at "w"
          exact h1 (.set m t) (hfree t (by simp)) (fun x hx => by rw [List.mem_singleton.mp hx]; exact hms) (hof _ (by rw [hm]; rfl))
        · have hz := hws z ok hz
          cases z with
          | set a t => simp only [ZRow.ws, List.cons.injEq, and_true] at hz; exact no a hz.2.1 (hsm a (by simp [ZRow.ints]))
          | two v a' b' => injection hz with hz _; subst hz; rcases ok with h | h | h | h <;> exact absurd h (by decide)
          | three a b c => simp [ZRow.ws] at hz
      · have g := of_decide_eq_false g
        rw [List.length_cons, List.length_map] at g
        walk_at "w"
        exact bad3 (by omega) (by decide)
    · refine wo_dict rfl ?_
      walk_at "w"
      refine wk_nif (fun g => ?_) (fun g => ?_)
      · have g := of_decide_eq_true g
        rw [List.length_cons, List.length_map] at g
        obtain ⟨a, b, rfl⟩ := len2 (by omega)
        simp only [List.map_cons, List.map_nil]
        walk_at "w"
        rw [drop1_cut, List.drop_succ_cons, List.drop_zero]
        refine wlenD (by decide) ?_
        walk_at "w"
        refine W.mono _ (fun x p => ?_) (fun _ z => z) (two a b rfl (k := fun ds => (dToTup (.lst ds)).rn (fun y => (dAdd (.tup [.str wMove]) y).rn q e) e) (by decide) fun m n hq => ?_)
        · walk_at "w"
          exact W.mono _ (fun y p => p) (fun _ z => z) p
        · walk_at "w"
          exact wo_addt (by show 3 ≤ 16777216; decide) hq
      · have g := of_decide_eq_false g
        rw [List.length_cons, List.length_map] at g
        walk_at "w"
        exact bad3 (by omega) (by decide)
    · refine wo_dict rfl ?_
      walk_at "w"
      refine wk_nif (fun g => ?_) (fun g => ?_)
      · have g := of_decide_eq_true g
        rw [List.length_cons, List.length_map] at g
        obtain ⟨a, b, c, rfl⟩ := len3 (by omega)
        simp only [List.map_cons, List.map_nil]
        walk_at "w"
        rw [drop1_cut, List.drop_succ_cons, List.drop_zero]
        refine wlenD (by decide) ?_
        walk_at "w"
        have no : ∀ {P : Int → Prop}, (∀ a' b' c', [wCons, a, b, c] = (ZRow.three a' b' c').ws → ZRow.small 100000 (.three a' b' c') → False) → e "BadText" := fun {P} hh => h2 fun z ok hz hsm => by
          have hz := hws z ok hz
          cases z with
          | set a t => simp [ZRow.ws] at hz
          | two v a' b' => simp [ZRow.ws] at hz
          | three a' b' c' => exact hh a' b' c' hz hsm
        refine pn (by simp) (fun m hm hms => ?_) (fun hn => no (P := fun _ => True) fun a' b' c' hz hsm => ?_)
        · walk_at "w"
          refine pn (by simp) (fun n hn hns => ?_) (fun hn => no (P := fun _ => True) fun a' b' c' hz hsm => ?_)
          · walk_at "w"
            refine pn (by simp) (fun o ho hos => ?_) (fun hn => no (P := fun _ => True) fun a' b' c' hz hsm => ?_)
            · walk_at "w"
              refine wo_addt (by show 4 ≤ 16777216; decide) (h1 (.three m n o) trivial (fun x hx => ?_) (hof _ (by rw [hm, hn, ho]; rfl)))
              simp only [ZRow.ints, List.mem_cons, List.not_mem_nil, or_false] at hx
              rcases hx with rfl | rfl | rfl
              · exact hms
              · exact hns
              · exact hos
            · simp only [ZRow.ws, List.cons.injEq, and_true] at hz
              exact hn c' hz.2.2.2 (hsm c' (by simp [ZRow.ints]))
          · simp only [ZRow.ws, List.cons.injEq, and_true] at hz
            exact hn b' hz.2.2.1 (hsm b' (by simp [ZRow.ints]))
        · simp only [ZRow.ws, List.cons.injEq, and_true] at hz
          exact hn a' hz.2.1 (hsm a' (by simp [ZRow.ints]))
      · have g := of_decide_eq_false g
        rw [List.length_cons, List.length_map] at g
        walk_at "w"
        exact bad4 (by omega) rfl
    · refine wo_dict rfl ?_
      walk_at "w"
      refine wk_nif (fun g => ?_) (fun g => ?_)
      · have g := of_decide_eq_true g
        rw [List.length_cons, List.length_map] at g
        obtain ⟨a, b, rfl⟩ := len2 (by omega)
        simp only [List.map_cons, List.map_nil]
        walk_at "w"
        rw [drop1_cut, List.drop_succ_cons, List.drop_zero]
        refine wlenD (by decide) ?_
        walk_at "w"
        refine W.mono _ (fun x p => ?_) (fun _ z => z) (two a b rfl (k := fun ds => (dToTup (.lst ds)).rn (fun y => (dAdd (.tup [.str wHead]) y).rn q e) e) (by decide) fun m n hq => ?_)
        · walk_at "w"
          exact W.mono _ (fun y p => p) (fun _ z => z) p
        · walk_at "w"
          exact wo_addt (by show 3 ≤ 16777216; decide) hq
      · have g := of_decide_eq_false g
        rw [List.length_cons, List.length_map] at g
        walk_at "w"
        exact bad3 (by omega) (by decide)
    · refine wo_dict rfl ?_
      walk_at "w"
      refine wk_nif (fun g => ?_) (fun g => ?_)
      · have g := of_decide_eq_true g
        rw [List.length_cons, List.length_map] at g
        obtain ⟨a, b, rfl⟩ := len2 (by omega)
        simp only [List.map_cons, List.map_nil]
        walk_at "w"
        rw [drop1_cut, List.drop_succ_cons, List.drop_zero]
        refine wlenD (by decide) ?_
        walk_at "w"
        refine W.mono _ (fun x p => ?_) (fun _ z => z) (two a b rfl (k := fun ds => (dToTup (.lst ds)).rn (fun y => (dAdd (.tup [.str wTail]) y).rn q e) e) (by decide) fun m n hq => ?_)
        · walk_at "w"
          exact W.mono _ (fun y p => p) (fun _ z => z) p
        · walk_at "w"
          exact wo_addt (by show 3 ≤ 16777216; decide) hq
      · have g := of_decide_eq_false g
        rw [List.length_cons, List.length_map] at g
        walk_at "w"
        exact bad3 (by omega) (by decide)
    · refine wo_dict rfl ?_
      walk_at "w"
      refine wk_nif (fun g => ?_) (fun g => ?_)
      · have g := of_decide_eq_true g
        rw [List.length_cons, List.length_map] at g
        obtain ⟨a, b, rfl⟩ := len2 (by omega)
        simp only [List.map_cons, List.map_nil]
        walk_at "w"
        rw [drop1_cut, List.drop_succ_cons, List.drop_zero]
        refine wlenD (by decide) ?_
        walk_at "w"
        refine W.mono _ (fun x p => ?_) (fun _ z => z) (two a b rfl (k := fun ds => (dToTup (.lst ds)).rn (fun y => (dAdd (.tup [.str wJump]) y).rn q e) e) (by decide) fun m n hq => ?_)
        · walk_at "w"
          exact W.mono _ (fun y p => p) (fun _ z => z) p
        · walk_at "w"
          exact wo_addt (by show 3 ≤ 16777216; decide) hq
      · have g := of_decide_eq_false g
        rw [List.length_cons, List.length_map] at g
        walk_at "w"
        exact bad3 (by omega) (by decide)
  · walk_at "w"
    refine h2 fun z ok hz hsm => ?_
    have := of_decide_eq_false g
    exact this (mem z ok (hws z ok hz))

section
variable {P : Program} {w : World} {K : PySem.W.Frag} {mg : Str → Option Value} {base : Heap}
theorem ok_programs_parse_row (T : Txt K mg w)
    (c_programs_parse_number : Cal P w K mg base (L2.CX P w) 1 "parse_number" ["word"] (spF K mg 1 .v F_programs_parse_number)) : Cal P w K mg base (L2.CX P w) 2 "parse_row" ["line"] (spF K mg 1 .v F_programs_parse_row) := by
  refine T.f_programs_parse_row.okX sc_programs_parse_row (fun vs H Q E h => spF_len h) (fun f cdv A outer s H vs Q E hr h => ?_)
  have tk := takes_of (X := cxOf (L2.CX P w) P w K mg base ["line", "words", "word"] "parse_row" (defScope s_programs_parse_row) f cdv A outer s H E) rfl rfl rfl rfl
  exact ⟨_, (pss_cons (ps_set (i := 1) sc_programs_parse_row.nd rfl (.inl rfl) (pe_split (nv 0) pe_str))
      (pss_cons (ps_if (PW.pt (pw_or (nCmp (oNotIn (K := K)) (pe_ix (ixU (K := K)) (nv 1) pe_int (fun _ _ => rfl)) (nGlobTK T.m_WORDS) (by rfl)) (pw_or1 (nCmp (oNe (K := K) hr.units) (pe_callB (cLen (K := K)) (by rfl) T.n_len PySem.boot_len (pa_cons (nv 1) pa_nil)) (nDict T.m_PARTS (pe_ix (ixU (K := K)) (nv 1) pe_int (fun _ _ => rfl)) (fun _ _ => rfl)) (nomark _))))) (pss_one (ps_raise rfl tk (nMk T.x_BadText))) pss_nil)
      (pss_cons (ps_if (nCmp (oEq (K := K) hr.units) (pe_ix (ixU (K := K)) (nv 1) pe_int (fun _ _ => rfl)) pe_str (nomark _)) (pss_one (ps_ret (pe_tup (pa_cons pe_str (pa_cons (nCall c_programs_parse_number (hr.mono (by decide)) (passes_call tk (fun _ _ _ _ h => h)) (pa_cons (pe_ix (ixU (K := K)) (nv 1) pe_int (fun _ _ => rfl)) pa_nil)) (pa_cons (pe_ix (ixU (K := K)) (nv 1) pe_int (fun _ _ => rfl)) pa_nil)))))) pss_nil)
      (pss_one (ps_ret (pe_op (oAdd (K := K)) (pe_tup (pa_cons (pe_ix (ixU (K := K)) (nv 1) pe_int (fun _ _ => rfl)) pa_nil)) (pe_callTy (cTup (K := K)) (by rfl) T.n_tuple PyProof.Rows.boot_tuple (pa_cons (pe_lcX (own := [("word", 2)]) (g := gName 2) (tt := tYes) E rfl rfl tk (fun _ _ _ _ h => h) rfl sc_programs_parse_row.nd (piAny (K := K) (pe_slice (slU (K := K)) (nv 1) (po_some pe_int) po_none)) (blkOk_by (own := [("word", 2)]) (N := ["line", "words", "word"]) (sc := defScope s_programs_parse_row) (by decide +kernel)) (fun _ _ _ _ _ => (pg_name (i := 2) sc_programs_parse_row.nd rfl (.inl rfl))) (fun _ _ _ _ _ => pts_nil) (fun _ _ _ _ _ => (nCall c_programs_parse_number (hr.mono (by decide)) passB (pa_cons (nv 2) pa_nil)))) pa_nil)))))))),
    sd_def (m := .v) (oN := []) (oB := []) (oC := []) (fun q => nomatch q)
      (sd_seq (o1 := []) (sd_set (oN := []) (pd_split (PD.s (pd_v (by decide))) (PD.s (pd_str [32] (by rfl)))) (by decide) (by decide) (by decide))
      (sd_seq (o1 := []) (sd_if (pdt_or (pdt_v (pd_op rd_notin (PD.s (pd_op rd_ix (PD.s (pd_v (by decide))) (PD.s pd_int))) (PD.s (pd_gt [D.str [115, 101, 116], D.str [109, 111, 118, 101], D.str [99, 111, 110, 115], D.str [104, 101, 97, 100], D.str [116, 97, 105, 108], D.str [106, 117, 109, 112]] (fun _ _ => ⟨_, _, rfl, rfl, ⟨_, _, rfl, rfl, ⟨_, _, rfl, rfl, ⟨_, _, rfl, rfl, ⟨_, _, rfl, rfl, ⟨_, _, rfl, rfl, rfl⟩⟩⟩⟩⟩⟩))))) (pdt_v (pd_op rd_ne (pd_cb1 rc_len (PD.s (pd_v (by decide)))) (PD.s (pd_dict [([115, 101, 116], D.int (3)), ([109, 111, 118, 101], D.int (3)), ([99, 111, 110, 115], D.int (4)), ([104, 101, 97, 100], D.int (3)), ([116, 97, 105, 108], D.int (3)), ([106, 117, 109, 112], D.int (3))] (by rfl) (by rfl) (pd_op rd_ix (PD.s (pd_v (by decide))) (PD.s pd_int)))))))
      (sd_raise (fun _ _ _ h => h))
      sd_next)
      (sd_seq (o1 := []) (sd_if (pdt_v (pd_op rd_eq (PD.s (pd_op rd_ix (PD.s (pd_v (by decide))) (PD.s pd_int))) (PD.s (pd_str [115, 101, 116] (by rfl)))))
      (sd_ret (pd_tup (pda_cons (pd_str [115, 101, 116] (by rfl)) (pda_cons (pd_call (len_cons len_nil) (pda_cons (pd_op rd_ix (PD.s (pd_v (by decide))) (PD.s pd_int)) pda_nil)) (pda_cons (pd_op rd_ix (PD.s (pd_v (by decide))) (PD.s pd_int)) pda_nil)))))
      sd_next)
      (sd_ret (pd_op rd_add (pd_tup (pda_cons (pd_op rd_ix (PD.s (pd_v (by decide))) (PD.s pd_int)) pda_nil)) (pd_cb1 rc_tup (pd_lcX (vs := [2]) (pdi_any (pd_sl (PD.s (pd_v (by decide))) (pdo_some pd_int) pdo_no)) (pgd_n (by decide) (by decide)) pdt_yes (pd_call (len_cons len_nil) (pda_cons (pd_v (by decide)) pda_nil))))))))) h⟩
end
def F_programs_parse_s2 : Env → W Out :=
      (fSeq (fIfS (fNot (fT (fCalm F_programs_is_program (fCons (fV 1) fNil))))
      (fRaise "BadText")
      fNext)
      (fRet (fV 1)))
def F_programs_parse_s1 : Env → W Out :=
      (fSeq (fIfS (fT (fOp dNe (fV 0) (fC (.str []))))
      (fSet 1 (fLcX (fItems (fSplit (fV 0) (fC (.str [59, 32])))) (fgN 2) fYes (fCall F_programs_parse_row (fCons (fV 2) fNil)) [2]))
      fNext)
      F_programs_parse_s2)
def F_programs_parse : List D → W D := defF 3
      (fSeq (fSet 1 (fLst fNil))
      F_programs_parse_s1)
theorem isprog_z {zs : List ZRow} {q : D → Prop} {e : Str → Prop} (ok : ∀ z ∈ zs, z.ok) (hc : ∀ z ∈ zs, ∀ c ∈ z.txt, c < 256) (hl : ∀ z ∈ zs, z.txt.length ≤ 10000000) (h : q (.bl (isProgD (D.lst (zs.map ZRow.x)).py))) : (F_programs_is_program [.lst (zs.map ZRow.x)]).run q e := by
  refine ⟨⟨flat_le (n := 2) (zs_flat1 fun z hz => zs_sOk (ok z hz) (hc z hz)) (by decide), zs_ask hl⟩, h⟩
theorem parse_end {x0 x2 : Option D} {zs : List ZRow} {q : D → Prop} {e : Str → Prop} (ok : ∀ z ∈ zs, z.ok) (hc : ∀ z ∈ zs, ∀ c ∈ z.txt, c < 256) (hl : ∀ z ∈ zs, z.txt.length ≤ 10000000)
    (h1 : ∀ p, zs = p.map zOf → isProgD (prgD p) = true → q (prgX p)) (h2 : (∀ p, zs = p.map zOf → isProgD (prgD p) = false) → e "BadText") : (F_programs_parse_s2 [x0, some (.lst (zs.map ZRow.x)), x2]).rn (Kdef q) e := by
  unfold F_programs_parse_s2
  walk_at "w"
  refine isprog_z ok hc hl ?_
  have key : ∀ p : List Row, zs = p.map zOf → (D.lst (zs.map ZRow.x)).py = prgD p ∧ D.lst (zs.map ZRow.x) = prgX p := fun p hp => by
    rw [hp, map_zOf_x]
    exact ⟨prg_py p, rfl⟩
  cases g : isProgD (D.lst (zs.map ZRow.x)).py with
  | true =>
    obtain ⟨p, hp⟩ := zs_prog ok g
    walk_at "w"
    rw [(key p hp).1] at g
    rw [(key p hp).2]
    exact h1 p hp g
  | false =>
    walk_at "w"
    exact h2 fun p hp => by rw [(key p hp).1] at g; exact g
theorem parse_ok {l : List Nat} {q : D → Prop} {e : Str → Prop} (hl : l.length ≤ 90000) (hc : ∀ c ∈ l, c < 256) (h1 : ∀ p, l = textP p → isProgD (prgD p) = true → q (prgX p)) (h2 : (∀ p, l = textP p → isProgD (prgD p) = false) → e "BadText") : (F_programs_parse [.str l]).run q e := by
  unfold F_programs_parse
  walk_at "d"
  unfold F_programs_parse_s1
  walk_at "w"
  refine wk_nif (fun g => ?_) (fun g => ?_)
  · have g := of_decide_eq_true g
    subst g
    walk_at "w"
    refine parse_end (zs := []) (fun z hz => nomatch hz) (fun z hz => nomatch hz) (fun z hz => nomatch hz) (fun p hp => ?_) (fun no => h2 fun p hp => ?_)
    · exact h1 p (by cases p with | nil => rfl | cons a r => cases hp)
    · have : p = [] := textP_nil.mp hp.symm
      exact no p (by rw [this]; rfl)
  · have g := of_decide_eq_false g
    have hm := split_many (S := [59, 32]) (by decide) l
    have hne : TL.spl [59, 32] 0 [] l ≠ [] := spl_ne _ _ _ _
    have hjoin : TL.joinL [59, 32] (TL.spl [59, 32] 0 [] l) = l := join_split (by decide)
    have hw : ∀ w ∈ TL.spl [59, 32] 0 [] l, w.length ≤ l.length ∧ ∀ c ∈ w, c < 256 := fun w h => ⟨split_len (by decide) h, fun c hx => split_signs hc w h c hx⟩
    have hspl : ∀ p, l = textP p → TL.spl [59, 32] 0 [] l = (p.map zOf).map ZRow.txt := fun p hp => by
      have hp0 : p ≠ [] := fun e => g (by rw [hp, e]; rfl)
      rw [hp, spl_text hp0, List.map_map]; rfl
    walk_at "w"
    refine wo_split (by decide) (by decide) (by omega) ?_
    generalize TL.spl [59, 32] 0 [] l = parts at hm hne hjoin hw hspl ⊢
    walk_at "w"
    refine ⟨(by rw [List.length_map]; omega : (parts.map D.str).length ≤ 16777216), w_out (lcGo_inv (fun i es => ∃ zs : List ZRow, (∀ z ∈ zs, z.ok) ∧ parts.take i = zs.map ZRow.txt ∧ es = zs.map ZRow.x) ⟨[], (fun z hz => nomatch hz), rfl, rfl⟩ (fun i d es hx he => ?_) (fun es he => ?_))⟩
    · obtain ⟨zs, ok, hr, rfl⟩ := he
      obtain ⟨w, hg, rfl⟩ := map_get hx
      have hwm := hw w (mem_of_get hg)
      refine w_in ?_
      walk_at "w"
      refine parse_row_ok (by omega) (fun z okz _ hz => ?_) (fun no => h2 fun p hp => ?_)
      · refine ⟨zs ++ [z], fun y hy => ?_, ?_, by rw [List.map_append]; rfl⟩
        · rcases List.mem_append.mp hy with hy | hy
          · exact ok y hy
          · rw [List.mem_singleton.mp hy]; exact okz
        · rw [List.take_add_one, hg, hr, hz, List.map_append]; rfl
      · cases hb : isProgD (prgD p) with
        | false => rfl
        | true =>
          exfalso
          have gp := Prg.of hb
          have e1 := hspl p hp
          rw [e1, List.getElem?_map, List.getElem?_map] at hg
          cases hpi : p[i]? with
          | none => rw [hpi] at hg; cases hg
          | some r =>
            rw [hpi] at hg
            have hg : (zOf r).txt = w := by simpa using hg
            have := gp.len
            have hi := (List.getElem?_eq_some_iff.mp hpi).1
            exact no (zOf r) (zOf_ok r) hg.symm (rng_small (by decide) (by omega) (by omega) (row_rng (gp.ok i r hpi)))
    · obtain ⟨zs, ok, hr, rfl⟩ := he
      rw [List.length_map, List.take_length] at hr
      have hz : ∀ z ∈ zs, z.txt.length ≤ l.length ∧ ∀ c ∈ z.txt, c < 256 := fun z hz => hw _ (by rw [hr]; exact List.mem_map.mpr ⟨z, hz, rfl⟩)
      walk_at "w"
      refine parse_end ok (fun z hzm => (hz z hzm).2) (fun z hzm => by have := (hz z hzm).1; omega) (fun p hp hb => h1 p ?_ hb) (fun no => h2 fun p hp => ?_)
      · rw [← hjoin, hr, hp, List.map_map]; rfl
      · refine no p (map_txt_inj ok (fun y hy => ?_) ?_)
        · obtain ⟨r, _, rfl⟩ := List.mem_map.mp hy
          exact zOf_ok r
        · rw [← hr]; exact hspl p hp

section
variable {P : Program} {w : World} {K : PySem.W.Frag} {mg : Str → Option Value} {base : Heap}
theorem ok_programs_parse (T : Txt K mg w)
    (b_programs_is_program : Cal P w K mg base CX0 3 "is_program" ["value"] (spF K mg 1 .v F_programs_is_program))
    (c_programs_parse_row : Cal P w K mg base (L2.CX P w) 2 "parse_row" ["line"] (spF K mg 1 .v F_programs_parse_row)) : Cal P w K mg base (L2.CX P w) 4 "parse" ["line"] (spF K mg 1 .v F_programs_parse) := by
  refine T.f_programs_parse.okX sc_programs_parse (fun vs H Q E h => spF_len h) (fun f cdv A outer s H vs Q E hr h => ?_)
  have tk := takes_of (X := cxOf (L2.CX P w) P w K mg base ["line", "program", "part"] "parse" (defScope s_programs_parse) f cdv A outer s H E) rfl rfl rfl rfl
  exact ⟨_, (pss_cons (ps_set (i := 1) sc_programs_parse.nd rfl (.inl rfl) (pe_lst pa_nil))
      (pss_cons (ps_if (nCmp (oNe (K := K) hr.units) (nv 0) pe_str (nomark _)) (pss_one (ps_setLcX (i := 1) (own := [("part", 2)]) (g := gName 2) (tt := tYes) E rfl rfl tk (fun _ _ _ _ h => h) rfl sc_programs_parse.nd rfl rfl (sw_true rfl rfl rfl (by decide +kernel)) (piAny (K := K) (pe_split (nv 0) pe_str)) (blkOk_by (own := [("part", 2)]) (N := ["line", "program", "part"]) (sc := defScope s_programs_parse) (by decide +kernel)) (fun _ _ _ _ _ => (pg_name (i := 2) sc_programs_parse.nd rfl (.inl rfl))) (fun _ _ _ _ _ => pts_nil) (fun _ _ _ _ _ => (nCall c_programs_parse_row (hr.mono (by decide)) passB (pa_cons (nv 2) pa_nil))))) pss_nil)
      (pss_cons (ps_if (pt_not (nVal (nCall b_programs_is_program (hr.mono (by decide)) pass0 (pa_cons (nv 1) pa_nil)))) (pss_one (ps_raise rfl tk (nMk T.x_BadText))) pss_nil)
      (pss_one (ps_ret (nv 1)))))),
    sd_def (m := .v) (oN := []) (oB := []) (oC := []) (fun q => nomatch q)
      (sd_seq (o1 := []) (sd_set (oN := []) (pd_lst pda_nil) (by decide) (by decide) (by decide))
      (sd_seq (o1 := []) (sd_if (pdt_v (pd_op rd_ne (PD.s (pd_v (by decide))) (PD.s (pd_str [] (by rfl)))))
      (sd_set (oN := []) (pd_lcX (vs := [2]) (pdi_any (pd_split (PD.s (pd_v (by decide))) (PD.s (pd_str [59, 32] (by rfl))))) (pgd_n (by decide) (by decide)) pdt_yes (pd_call (len_cons len_nil) (pda_cons (pd_v (by decide)) pda_nil))) (by decide) (by decide) (by decide))
      sd_next)
      (sd_seq (o1 := []) (sd_if (pdt_not (pdt_v (pd_calm (len_cons len_nil) (pda_cons (pd_v (by decide)) pda_nil))))
      (sd_raise (fun _ _ _ h => h))
      sd_next)
      (sd_ret (pd_v (by decide)))))) h⟩
end
def F_programs_text : List D → W D := defF 3
      (fRet (fJoin (fC (.str [59, 32])) (fLc (fItems (fV 0)) (fgN 2) fYes (fJoin (fC (.str [32])) (fLc (fItems (fV 2)) (fgN 1) fYes (fUn dStr (fV 1)) [1])) [2])))
/-- instructions whose text is short enough -/
def TxtOk (r : Row) : Prop := (zOf r).small 1000000 ∧ rowLen r ≤ 1000000
theorem wd_str {n : Int} {qd : D → Prop} {e : Str → Prop} (hn : n.natAbs < 1000000) (h : qd (.str (intL n))) : (dStr (.int n)).rn qd e := wo_stri (log_small (by omega)) h
theorem words_ok {r : Row} {qd : D → Prop} {e : Str → Prop} (hr : TxtOk r) (h : qd (.str (textR r))) : (dJoin (.str [32]) (.lst ((zOf r).ws.map D.str))).rn qd e := by
  refine wo_join ?_ h
  have il : ∀ {n : Int}, n.natAbs < 1000000 → (intL n).length ≤ 7 := fun {n} h => intL_len (i := n) (k := 6) (by decide) (by have e : (10 : Nat) ^ 6 = 1000000 := (by decide); omega)
  obtain ⟨h1, h2⟩ := hr
  cases r with
  | set a t =>
    have := il (h1 (a : Int) (by simp [zOf, ZRow.ints]))
    have h2 : t.enc.length ≤ 1000000 := h2
    simp [zOf, ZRow.ws, wSet]; omega
  | move a b =>
    have := il (h1 (a : Int) (by simp [zOf, ZRow.ints]))
    have := il (h1 (b : Int) (by simp [zOf, ZRow.ints]))
    simp [zOf, ZRow.ws, wMove]; omega
  | cons a b c =>
    have := il (h1 (a : Int) (by simp [zOf, ZRow.ints]))
    have := il (h1 (b : Int) (by simp [zOf, ZRow.ints]))
    have := il (h1 (c : Int) (by simp [zOf, ZRow.ints]))
    simp [zOf, ZRow.ws, wCons]; omega
  | head a b =>
    have := il (h1 (a : Int) (by simp [zOf, ZRow.ints]))
    have := il (h1 (b : Int) (by simp [zOf, ZRow.ints]))
    simp [zOf, ZRow.ws, wHead]; omega
  | tail a b =>
    have := il (h1 (a : Int) (by simp [zOf, ZRow.ints]))
    have := il (h1 (b : Int) (by simp [zOf, ZRow.ints]))
    simp [zOf, ZRow.ws, wTail]; omega
  | jump a b =>
    have := il (h1 (a : Int) (by simp [zOf, ZRow.ints]))
    have := il (h1 b (by simp [zOf, ZRow.ints]))
    simp [zOf, ZRow.ws, wJump]; omega
theorem text_ok {rows : List Row} {q : D → Prop} {e : Str → Prop} (hn : rows.length ≤ 100000) (hr : ∀ r ∈ rows, TxtOk r) (hl : (textP rows).length ≤ 10000000) (h : q (.str (textP rows))) : (F_programs_text [prgX rows]).run q e := by
  unfold F_programs_text
  walk_at "d"
  refine ⟨(by rw [List.length_map]; omega : (rows.map Row.x).length ≤ 16777216), w_out (lcGo_map (fun r => D.str (textR r)) (fun r hm => ?_) ?_)⟩
  · have ok := hr r hm
    have s1 := ok.1
    refine w_in ?_
    cases r with
    | set a t =>
      dsimp only [Row.x, treeX]
      walk_at "w"
      refine wd_str (s1 _ (by simp [zOf, ZRow.ints])) ?_
      walk_at "w"
      exact words_ok (r := .set a t) ok rfl
    | move a b =>
      dsimp only [Row.x]
      walk_at "w"
      refine wd_str (s1 _ (by simp [zOf, ZRow.ints])) ?_
      walk_at "w"
      refine wd_str (s1 _ (by simp [zOf, ZRow.ints])) ?_
      walk_at "w"
      exact words_ok (r := .move a b) ok rfl
    | cons a b c =>
      dsimp only [Row.x]
      walk_at "w"
      refine wd_str (s1 _ (by simp [zOf, ZRow.ints])) ?_
      walk_at "w"
      refine wd_str (s1 _ (by simp [zOf, ZRow.ints])) ?_
      walk_at "w"
      refine wd_str (s1 _ (by simp [zOf, ZRow.ints])) ?_
      walk_at "w"
      exact words_ok (r := .cons a b c) ok rfl
    | head a b =>
      dsimp only [Row.x]
      walk_at "w"
      refine wd_str (s1 _ (by simp [zOf, ZRow.ints])) ?_
      walk_at "w"
      refine wd_str (s1 _ (by simp [zOf, ZRow.ints])) ?_
      walk_at "w"
      exact words_ok (r := .head a b) ok rfl
    | tail a b =>
      dsimp only [Row.x]
      walk_at "w"
      refine wd_str (s1 _ (by simp [zOf, ZRow.ints])) ?_
      walk_at "w"
      refine wd_str (s1 _ (by simp [zOf, ZRow.ints])) ?_
      walk_at "w"
      exact words_ok (r := .tail a b) ok rfl
    | jump a b =>
      dsimp only [Row.x]
      walk_at "w"
      refine wd_str (s1 _ (by simp [zOf, ZRow.ints])) ?_
      walk_at "w"
      refine wd_str (s1 _ (by simp [zOf, ZRow.ints])) ?_
      walk_at "w"
      exact words_ok (r := .jump a b) ok rfl
  · walk_at "w"
    have e1 : rows.map (fun r => D.str (textR r)) = (rows.map textR).map D.str := by rw [List.map_map]; rfl
    rw [e1]
    refine wo_join ?_ h
    have h1 := joinL_len [59, 32] (rows.map textR)
    have h2 : (TL.joinL [59, 32] (rows.map textR)).length ≤ 10000000 := hl
    rw [List.length_map]
    show _ + _ * 2 ≤ _
    omega

section
variable {P : Program} {w : World} {K : PySem.W.Frag} {mg : Str → Option Value} {base : Heap}
theorem ok_programs_text (T : Txt K mg w) : Cal P w K mg base CX0 1 "text" ["program"] (spF K mg 1 .v F_programs_text) := by
  refine T.f_programs_text.ok sc_programs_text (fun vs H Q E h => spF_len h) (fun f cdv A outer s H vs Q E hr h => ⟨_, (pss_one (ps_ret (pe_join pe_str (pe_lc (own := [("row", 2)]) (g := gName 2) (tt := tYes) rfl sc_programs_text.nd (piAny (K := K) (nv 0)) (blkOk_by (own := [("row", 2)]) (N := ["program", "part", "row"]) (sc := defScope s_programs_text) (by decide +kernel)) (fun _ _ _ _ _ => (pg_name (i := 2) sc_programs_text.nd rfl (.inl rfl))) (fun _ _ _ _ _ => pts_nil) (fun _ _ _ _ _ => (pe_join pe_str (pe_lc (own := [("part", 1)]) (g := gName 1) (tt := tYes) rfl sc_programs_text.nd (piAny (K := K) (nv 2)) (blkOk_by (own := [("part", 1)]) (N := ["program", "part", "row"]) (by kernel_rfl)) (fun _ _ _ _ _ => (pg_name (i := 1) sc_programs_text.nd rfl (.inl rfl))) (fun _ _ _ _ _ => pts_nil) (fun _ _ _ _ _ => (pe_callTy cStr (by rfl) T.n_str PyProof.Rows.boot_str (pa_cons (nv 1) pa_nil)))))))))),
    sd_def (m := .v) (oN := []) (oB := []) (oC := []) (fun q => nomatch q)
      (sd_ret (pd_join (PD.s (pd_str [59, 32] (by rfl))) (pd_lc (vs := [2]) (pdi_any (PD.s (pd_v (by decide)))) (pgd_n (by decide) (by decide)) pdt_yes (pd_join (PD.s (pd_str [32] (by rfl))) (pd_lc (vs := [1]) (pdi_any (PD.s (pd_v (by decide)))) (pgd_n (by decide) (by decide)) pdt_yes (pd_cb1 rc_str (PD.s (pd_v (by decide))))))))) h⟩)
end
def F_L_is_tree : List D → W D := defF 3
      (fSeq (fSet 1 (fC (.int (1))))
      (fSeq (fFor (fItems (fV 0)) (fgN 2)
      (fSeq (fIfS (fOr (fT (fOp dEq (fV 1) (fC (.int (0))))) (fT (fOp dNotIn (fV 2) (fTup (fCons (fC (.str [48])) (fCons (fC (.str [49])) fNil))))))
      (fRet (fC (.bl false)))
      fNext)
      (fSet 1 (fOp dSub (fOp dAdd (fV 1) (fC (.int (1)))) (fOp dMul (fC (.int (2))) (fUn dInt (fOp dEq (fV 2) (fC (.str [48])))))))))
      (fRet (fOp dEq (fV 1) (fC (.int (0)))))))
theorem scan_step {m : Nat} {c : Nat} {r : List Nat} (h0 : m ≠ 0) (hc : c = 48 ∨ c = 49) : scan m (c :: r) = scan (if c = 48 then m - 1 else m + 1) r := by
  obtain ⟨k, rfl⟩ : ∃ k, m = k + 1 := ⟨m - 1, by omega⟩
  rcases hc with rfl | rfl
  · exact scan_leaf k r
  · exact scan_one k r
theorem istree10_ok {l : List Nat} {q : D → Prop} {e : Str → Prop} (hl : l.length ≤ 10000000) (h : q (.bl (decide (scan 1 l = some 0)))) : (F_L_is_tree [.str l]).run q e := by
  unfold F_L_is_tree
  walk_at "d"
  refine w_out (forGo_inv (fun i ρ => ∃ (m : Nat) (x2 : Option D), ρ = [some (.str l), some (.int (m : Int)), x2] ∧ scan 1 l = scan m (l.drop i)) ⟨1, none, rfl, rfl⟩ (fun i d ρ hx hI => ?_) (fun ρ hI => ?_))
  · obtain ⟨m, x2, rfl, hs⟩ := hI
    obtain ⟨c, hc, rfl⟩ := map_get hx
    have hd : l.drop i = c :: l.drop (i + 1) := drop_cons hc
    rw [hd] at hs
    refine w_in ?_
    walk_at "w"
    refine wk_dec (fun g => ?_) (fun g => ?_)
    · have : m = 0 := by omega
      subst this
      walk_at "w"
      rw [hs, scan_zero] at h
      exact h
    · have hm : m ≠ 0 := by omega
      walk_at "w"
      refine wn_tup rfl rfl ?_
      have e1 : ([D.str [48], D.str [49]].any fun y => eqD y (.str [c])) = decide (c = 48 ∨ c = 49) := by
        show (decide (([48] : List Nat) = [c]) || (decide (([49] : List Nat) = [c]) || false)) = _
        simp only [List.cons.injEq, and_true, Bool.or_false, Bool.decide_or, eq_comm (b := c)]
      rw [e1]
      refine wk_nif (fun g2 => ?_) (fun g2 => ?_)
      · have g2 := of_decide_eq_true g2
        walk_at "w"
        rw [scan_step hm g2] at hs
        have mul : ∀ {b : Bool} {k : D → Prop}, k (.int (2 * (if b = true then 1 else 0))) → (dMul (.int 2) (.int (if b = true then 1 else 0))).rn k e := fun {b k} hk => by
          exact ⟨.inl ⟨by decide, by decide⟩, hk⟩
        refine mul ?_
        walk_at "w"
        refine ⟨_, _, congrArg (fun z => [some (D.str l), some (D.int z), some (D.str [c])]) ?_, hs⟩
        rcases g2 with rfl | rfl
        · rw [decide_eq_true rfl, if_pos rfl, if_pos rfl]; omega
        · rw [decide_eq_false (by decide), if_neg (by decide), if_neg (by decide)]; omega
      · have g2 := of_decide_eq_false g2
        walk_at "w"
        obtain ⟨k, rfl⟩ : ∃ k, m = k + 1 := ⟨m - 1, by omega⟩
        rw [scan_other k _ (fun z => g2 (.inr z)) (fun z => g2 (.inl z))] at hs
        rw [hs] at h
        exact h
  · obtain ⟨m, x2, rfl, hs⟩ := hI
    rw [List.length_map, List.drop_length, scan_nil] at hs
    walk_at "w"
    rw [hs] at h
    have e1 : decide (some m = some 0) = decide ((m : Int) = 0) := by
      by_cases q : m = 0
      · rw [q]; rfl
      · rw [decide_eq_false (by simpa using q), decide_eq_false (by omega)]
    rw [e1] at h
    exact h

section
variable {P : Program} {w : World} {K : PySem.W.Frag} {mg : Str → Option Value} {base : Heap}
theorem ok_L_is_tree (T : Txt K mg w) : Cal P w K mg base CX0 1 "_law_is_tree" ["_law_value"] (spF K mg 1 .v F_L_is_tree) := by
  refine T.f_L_is_tree.ok sc_L_is_tree (fun vs H Q E h => spF_len h) (fun f cdv A outer s H vs Q E hr h => ⟨_, (pss_cons (ps_set (i := 1) sc_L_is_tree.nd rfl (.inl rfl) pe_int)
      (pss_cons (ps_for PassesOwn.never rfl (piAny (K := K) (nv 0)) (pg_name (i := 2) sc_L_is_tree.nd rfl (.inl rfl)) (pss_cons (ps_if (PW.pt (pw_or (nCmp (oEq (K := K) hr.units) (nv 1) pe_int (nomark _)) (pw_or1 (nCmp (oNotIn (K := K)) (nv 2) (pe_tup (pa_cons pe_str (pa_cons pe_str pa_nil))) (by rfl))))) (pss_one (ps_ret pe_bl)) pss_nil)
      (pss_one (ps_set (i := 1) sc_L_is_tree.nd rfl (.inl rfl) (pe_op oSub (pe_op (oAdd (K := K)) (nv 1) pe_int) (pe_op (oMul (K := K)) pe_int (pe_callTy cIntA (by rfl) T.n_int PyProof.Rows.boot_int (pa_cons (pe_cmpR (oEq (K := K) hr.units) (nv 2) pe_str (nomark _)) pa_nil))))))))
      (pss_one (ps_ret (pe_cmpR (oEq (K := K) hr.units) (nv 1) pe_int (nomark _)))))),
    sd_def (m := .v) (oN := []) (oB := []) (oC := []) (fun q => nomatch q)
      (sd_seq (o1 := []) (sd_set (oN := []) pd_int (by decide) (by decide) (by decide))
      (sd_seq (o1 := []) (sd_for (vs := [2]) (pdi_for (pd_v (by decide))) (pgd_n (by decide) (by decide)) (by decide)
      (sd_seq (o1 := []) (sd_if (pdt_or (pdt_v (pd_op rd_eq (PD.s (pd_v (by decide))) (PD.s pd_int))) (pdt_v (pd_op rd_notin (PD.s (pd_v (by decide))) (pd_tup (pda_cons (pd_str [48] (by rfl)) (pda_cons (pd_str [49] (by rfl)) pda_nil))))))
      (sd_ret pd_bl)
      sd_next)
      (sd_set (oN := []) (pd_op rd_sub (pd_op rd_add (PD.s (pd_v (by decide))) (PD.s pd_int)) (pd_op rd_mul (PD.s pd_int) (pd_cb1 rc_int (pd_op rd_eq (PD.s (pd_v (by decide))) (PD.s (pd_str [48] (by rfl))))))) (by decide) (by decide) (by decide))))
      (sd_ret (pd_op rd_eq (PD.s (pd_v (by decide))) (PD.s pd_int))))) h⟩)
end
def F_L_number_s1 : Env → W Out :=
      (fSeq (fIfS (fOr (fT (fOp dEq (fV 1) (fC (.str [])))) (fOr (fT (fUn dAny (fLc (fItems (fV 1)) (fgN 2) fYes (fOp dNotIn (fV 2) (fC (.str [48, 49, 50, 51, 52, 53, 54, 55, 56, 57]))) [2]))) (fT (fOp (dCI fun i j => decide (j < i)) (fUn dLen (fV 1)) (fC (.int (9)))))))
      (fRet (fC .non))
      fNext)
      (fSeq (fIfS (fAnd (fT (fOp dEq (fOp dIx (fV 1) (fC (.int (0)))) (fC (.str [48])))) (fT (fOp dNe (fV 0) (fC (.str [48])))))
      (fRet (fC .non))
      fNext)
      (fRet (fUn dInt (fV 0)))))
def F_L_number : List D → W D := defF 3
      (fSeq (fSet 1 (fSl (fV 0) (fSome (fUn dInt (fOp dEq (fSl (fV 0) fNo (fSome (fC (.int (1))))) (fC (.str [45]))))) fNo))
      F_L_number_s1)
theorem any_no {l : List Nat} : ((l.map fun c => !decide (c ∈ digitsS)).any id) = true ↔ ¬ NumText.AllDigits l := by
  rw [List.any_map, List.any_eq_true]
  constructor
  · rintro ⟨c, hc, h⟩ hd
    have h : (!decide (c ∈ digitsS)) = true := h
    rw [decide_eq_true (mem_digits.mpr (hd c hc))] at h
    cases h
  · intro h
    refine Classical.byContradiction fun no => h fun c hc => ?_
    refine Classical.byContradiction fun no2 => no ⟨c, hc, ?_⟩
    show (!decide (c ∈ digitsS)) = true
    rw [decide_eq_false (fun z => no2 (mem_digits.mp z))]; rfl
theorem lnum_rest {l : List Nat} {q : D → Prop} {e : Str → Prop} (hl : l.length ≤ 10000000) (h1 : ∀ n : Int, l = intL n → n.natAbs < 1000000000 → q (.int n)) (h2 : (∀ n : Int, l = intL n → ¬ n.natAbs < 1000000000) → q .non) : (F_L_number_s1 [some (.str l), some (.str (plainL l)), none]).rn (Kdef q) e := by
  have pl := plain_len l
  have bad : (∀ n : Int, l = intL n → n.natAbs < 1000000000 → plainL l ≠ [] → NumText.AllDigits (plainL l) → (plainL l).length ≤ 9 → False) → q .non := fun hb => h2 fun n hn hs => by
    have e1 := plain_int n
    rw [← hn] at e1
    have h3 := TL.numL_len (n := n.natAbs) (k := 9) (by decide) hs
    rw [← e1] at h3
    exact hb n hn hs (by rw [e1]; exact TL.numL_ne _) (by rw [e1]; exact TL.numL_digits _) h3
  unfold F_L_number_s1
  walk_at "w"
  refine wk_dec (fun g => ?_) (fun g1 => ?_)
  · walk_at "w"
    exact bad fun n _ _ h3 _ _ => h3 g
  · walk_at "w"
    refine ⟨(by rw [List.length_map]; omega : ((plainL l).map fun c => D.str [c]).length ≤ 16777216), w_out (lcGo_map (fun c => D.bl (!decide (c ∈ digitsS))) (fun c hc => ?_) ?_)⟩
    · refine w_in ?_
      walk_at "w"
      rfl
    · have e1 : (plainL l).map (fun c => D.bl (!decide (c ∈ digitsS))) = ((plainL l).map fun c => !decide (c ∈ digitsS)).map D.bl := by rw [List.map_map]; rfl
      rw [e1]
      refine wo_any ?_
      walk_at "w"
      refine wk_if (fun g => ?_) (fun g2 => ?_)
      · walk_at "w"
        exact bad fun n _ _ _ h4 _ => any_no.mp g h4
      · have g2 : NumText.AllDigits (plainL l) := Classical.byContradiction fun no => by rw [any_no.mpr no] at g2; cases g2
        walk_at "w"
        refine wo_lens (by omega) ?_
        walk_at "w"
        refine wk_dec (fun g => ?_) (fun g3 => ?_)
        · walk_at "w"
          exact bad fun n _ _ _ _ h5 => by omega
        · walk_at "w"
          obtain ⟨c, r, hp⟩ : ∃ c r, plainL l = c :: r := by
            cases h : plainL l with
            | nil => exact absurd h g1
            | cons c r => exact ⟨c, r, rfl⟩
          have back : (l = [48] ∨ c ≠ 48) → (F_L_number_s1 [some (.str l), some (.str (plainL l)), none]) = (F_L_number_s1 [some (.str l), some (.str (plainL l)), none]) → (dInt (.str l)).rn q e := fun hz _ => by
            have fin : ∀ n : Int, l = intL n → PySem.intText? (S l) = some n → n.natAbs < 1000000000 → (dInt (.str l)).rn q e := fun n hn ht hs => wo_intt ht (by omega) (h1 n hn hs)
            rcases hz with hz | hz
            · refine fin 0 (by rw [hz]; exact (intL_nat 0).symm ▸ numL_zero.symm) (by rw [hz]; exact int_plain (l := [48]) (by decide +kernel |> fun (h : ∀ c ∈ ([48] : List Nat), 48 ≤ c ∧ c ≤ 57) => h) (by decide) (by decide)) (by decide)
            · have hh : (plainL l).head? ≠ some 48 := by rw [hp]; intro w; exact hz (by simpa using w)
              have hv := digitsVal_lt _ _ (Nat.le_refl _) g2
              have hpw : 10 ^ (plainL l).length ≤ 10 ^ 9 := Nat.pow_le_pow_right (by decide) (by omega)
              have e9 : (10 : Nat) ^ 9 = 1000000000 := by decide
              refine fin _ (plain_back g2 g1 hh) (int_plain g2 g1 (by omega)) ?_
              split <;> omega
          refine wo_ixs (by omega) (show atI (plainL l) ((0 : Nat) : Int) = some c by rw [hp]; exact atI_nat (j := 0) rfl) ?_
          walk_at "w"
          refine wk_dec (fun g4 => ?_) (fun g4 => ?_)
          · have g4 : c = 48 := by injection g4
            walk_at "w"
            refine wk_nif (fun g5 => ?_) (fun g5 => ?_)
            · walk_at "w"
              exact back (.inl (of_decide_eq_true g5)) rfl
            · walk_at "w"
              have g5 := of_decide_eq_false g5
              refine bad fun n hn _ _ _ _ => ?_
              have e1 := plain_int n
              rw [← hn, hp, g4] at e1
              by_cases h0 : n.natAbs = 0
              · have : n = 0 := by omega
                subst this
                exact g5 (by rw [hn]; exact (intL_nat 0).trans numL_zero)
              · exact numL_head (n := n.natAbs) (by omega) (by rw [← e1]; rfl)
          · walk_at "w"
            exact back (.inr fun z => g4 (by rw [z])) rfl
theorem number10_ok {l : List Nat} {q : D → Prop} {e : Str → Prop} (hl : l.length ≤ 10000000) (h1 : ∀ n : Int, l = intL n → n.natAbs < 1000000000 → q (.int n)) (h2 : (∀ n : Int, l = intL n → ¬ n.natAbs < 1000000000) → q .non) : (F_L_number [.str l]).run q e := by
  have k := lnum_rest (e := e) hl h1 h2
  unfold F_L_number
  walk_at "d"
  refine wo_sls (by omega) ?_
  rw [take1_cut]
  walk_at "w"
  by_cases g : l.take 1 = [45]
  · rw [decide_eq_true g]
    walk_at "w"
    refine wo_sls (by omega) ?_
    rw [show (if true = true then (1 : Int) else 0) = 1 from rfl, drop1_cut]
    walk_at "w"
    have e1 : plainL l = l.drop 1 := by unfold plainL; rw [if_pos g]
    rw [e1] at k
    exact k
  · rw [decide_eq_false g]
    walk_at "w"
    refine wo_sls (by omega) ?_
    have e0 : cutL l (some (if false = true then (1 : Int) else 0)) none = l := by
      rw [show (if false = true then (1 : Int) else 0) = ((0 : Nat) : Int) from rfl, cutL_drop (Nat.zero_le _), List.drop_zero]
    rw [e0]
    walk_at "w"
    have e1 : plainL l = l := by unfold plainL; rw [if_neg g]
    rw [e1] at k
    exact k

section
variable {P : Program} {w : World} {K : PySem.W.Frag} {mg : Str → Option Value} {base : Heap}
theorem ok_L_number (T : Txt K mg w) : Cal P w K mg base CX0 1 "_law_number" ["_law_word"] (spF K mg 1 .v F_L_number) := by
  refine T.f_L_number.ok sc_L_number (fun vs H Q E h => spF_len h) (fun f cdv A outer s H vs Q E hr h => ⟨_, (pss_cons (ps_set (i := 1) sc_L_number.nd rfl (.inl rfl) (pe_slice (slU (K := K)) (nv 0) (po_some (pe_callTy cIntA (by rfl) T.n_int PyProof.Rows.boot_int (pa_cons (pe_cmpR (oEq (K := K) hr.units) (pe_slice (slU (K := K)) (nv 0) po_none (po_some pe_int)) pe_str (nomark _)) pa_nil))) po_none))
      (pss_cons (ps_if (PW.pt (pw_or (nCmp (oEq (K := K) hr.units) (nv 1) pe_str (nomark _)) (pw_or (nVal (pe_callB (cr_any rfl) (by rfl) T.n_any PyProof.Rows.boot_any (pa_cons (pe_lc (own := [("_law_sign", 2)]) (g := gName 2) (tt := tYes) rfl sc_L_number.nd (piAny (K := K) (nv 1)) (blkOk_by (own := [("_law_sign", 2)]) (N := ["_law_word", "_law_plain", "_law_sign"]) (sc := defScope s_L_number) (by decide +kernel)) (fun _ _ _ _ _ => (pg_name (i := 2) sc_L_number.nd rfl (.inl rfl))) (fun _ _ _ _ _ => pts_nil) (fun _ _ _ _ _ => (pe_cmpR (oNotIn (K := K)) (nv 2) pe_str (by rfl)))) pa_nil))) (pw_or1 (nCmp oGt (pe_callB (cLen (K := K)) (by rfl) T.n_len PySem.boot_len (pa_cons (nv 1) pa_nil)) pe_int (nomark _)))))) (pss_one (ps_ret pe_non)) pss_nil)
      (pss_cons (ps_if (PW.pt (pw_and (nCmp (oEq (K := K) hr.units) (pe_ix (ixU (K := K)) (nv 1) pe_int (fun _ _ => rfl)) pe_str (nomark _)) (pw_and1 (nCmp (oNe (K := K) hr.units) (nv 0) pe_str (nomark _))))) (pss_one (ps_ret pe_non)) pss_nil)
      (pss_one (ps_ret (pe_callTy cIntA (by rfl) T.n_int PyProof.Rows.boot_int (pa_cons (nv 0) pa_nil))))))),
    sd_def (m := .v) (oN := []) (oB := []) (oC := []) (fun q => nomatch q)
      (sd_seq (o1 := []) (sd_set (oN := []) (pd_sl (PD.s (pd_v (by decide))) (pdo_some (pd_cb1 rc_int (pd_op rd_eq (pd_sl (PD.s (pd_v (by decide))) pdo_no (pdo_some pd_int)) (PD.s (pd_str [45] (by rfl)))))) pdo_no) (by decide) (by decide) (by decide))
      (sd_seq (o1 := []) (sd_if (pdt_or (pdt_v (pd_op rd_eq (PD.s (pd_v (by decide))) (PD.s (pd_str [] (by rfl))))) (pdt_or (pdt_v (pd_cb1 rc_any (pd_lc (vs := [2]) (pdi_any (PD.s (pd_v (by decide)))) (pgd_n (by decide) (by decide)) pdt_yes (pd_op rd_notin (PD.s (pd_v (by decide))) (PD.s (pd_str [48, 49, 50, 51, 52, 53, 54, 55, 56, 57] (by rfl))))))) (pdt_v (pd_op rd_ci (pd_cb1 rc_len (PD.s (pd_v (by decide)))) (PD.s pd_int)))))
      (sd_ret pd_non)
      sd_next)
      (sd_seq (o1 := []) (sd_if (pdt_and (pdt_v (pd_op rd_eq (PD.s (pd_op rd_ix (PD.s (pd_v (by decide))) (PD.s pd_int))) (PD.s (pd_str [48] (by rfl))))) (pdt_v (pd_op rd_ne (PD.s (pd_v (by decide))) (PD.s (pd_str [48] (by rfl))))))
      (sd_ret pd_non)
      sd_next)
      (sd_ret (pd_cb1 rc_int (PD.s (pd_v (by decide)))))))) h⟩)
end
def F_L_row_s3 : Env → W Out :=
      (fSeq (fIfS (fT (fOp dEq (fOp dIx (fV 3) (fC (.int (0)))) (fC (.str [115, 101, 116]))))
      (fSeq (fIfS (fOr (fNot (fT (fCalm F_L_is_tree (fCons (fOp dIx (fV 3) (fC (.int (2)))) fNil)))) (fOr (fT (fOp dIs (fOp dIx (fV 4) (fC (.int (0)))) (fC .non))) (fNot (fT (fChain (dCI fun i j => decide (i ≤ j)) (dCI fun i j => decide (i ≤ j)) (fC (.int (0))) (fOp dIx (fV 4) (fC (.int (0)))) (fC (.int (19))))))))
      (fRet (fC .non))
      fNext)
      (fRet (fTup (fCons (fC (.str [115, 101, 116])) (fCons (fOp dIx (fV 4) (fC (.int (0)))) (fCons (fOp dIx (fV 3) (fC (.int (2)))) fNil))))))
      fNext)
      (fSeq (fIfS (fOr (fT (fOp dInL (fC .non) (fV 4))) (fNot (fT (fChain (dCI fun i j => decide (i ≤ j)) (dCI fun i j => decide (i ≤ j)) (fC (.int (0))) (fOp dIx (fV 4) (fC (.int (0)))) (fC (.int (19)))))))
      (fRet (fC .non))
      fNext)
      (fSeq (fIfS (fT (fOp dEq (fOp dIx (fV 3) (fC (.int (0)))) (fC (.str [106, 117, 109, 112]))))
      (fIfS (fNot (fT (fChain (dCI fun i j => decide (i ≤ j)) (dCI fun i j => decide (i ≤ j)) (fC (.int (0))) (fOp dAdd (fV 1) (fOp dIx (fV 4) (fC (.int (1))))) (fV 2))))
      (fRet (fC .non))
      fNext)
      (fIfS (fNot (fT (fUn dAll (fLc (fItems (fV 4)) (fgN 6) fYes (fChain (dCI fun i j => decide (i ≤ j)) (dCI fun i j => decide (i ≤ j)) (fC (.int (0))) (fV 6) (fC (.int (19)))) [6]))))
      (fRet (fC .non))
      fNext))
      (fRet (fOp dAdd (fTup (fCons (fOp dIx (fV 3) (fC (.int (0)))) fNil)) (fUn dToTup (fV 4)))))))
def F_L_row : List D → W D := defF 7
      (fSeq (fSet 3 (fSplit (fV 0) (fC (.str [32]))))
      (fSeq (fIfS (fOr (fT (fOp dNotIn (fOp dIx (fV 3) (fC (.int (0)))) (fTup (fCons (fC (.str [115, 101, 116])) (fCons (fC (.str [109, 111, 118, 101])) (fCons (fC (.str [99, 111, 110, 115])) (fCons (fC (.str [104, 101, 97, 100])) (fCons (fC (.str [116, 97, 105, 108])) (fCons (fC (.str [106, 117, 109, 112])) fNil))))))))) (fT (fOp dNe (fUn dLen (fV 3)) (fOp dAdd (fC (.int (3))) (fUn dInt (fOp dEq (fOp dIx (fV 3) (fC (.int (0)))) (fC (.str [99, 111, 110, 115]))))))))
      (fRet (fC .non))
      fNext)
      (fSeq (fSet 4 (fLc (fItems (fSl (fV 3) (fSome (fC (.int (1)))) fNo)) (fgN 5) fYes (fCalm F_L_number (fCons (fV 5) fNil)) [5]))
      F_L_row_s3)))
theorem wn_six5 {w : List Nat} {qb : Bool → Prop} {e : Str → Prop} (h : qb (decide (w ∈ [wSet, wMove, wCons, wHead, wTail, wJump]))) : (dInB (.str w) (.tup [D.str [115, 101, 116], D.str [109, 111, 118, 101], D.str [99, 111, 110, 115], D.str [104, 101, 97, 100], D.str [116, 97, 105, 108], D.str [106, 117, 109, 112]])).rn qb e := wn_six h
/-- a word as a number, or None -/
def NumD (a : List Nat) (d : D) : Prop := (∃ n : Int, a = intL n ∧ n.natAbs < 1000000000 ∧ d = .int n) ∨ ((∀ n : Int, a = intL n → ¬ n.natAbs < 1000000000) ∧ d = .non)
theorem numD_ok {a : List Nat} {q : D → Prop} {e : Str → Prop} (hl : a.length ≤ 10000000) (h : ∀ d, NumD a d → q d) : (F_L_number [.str a]).run q e :=
  number10_ok hl (fun n hn hs => h _ (.inl ⟨n, hn, hs, rfl⟩)) (fun no => h _ (.inr ⟨no, rfl⟩))
theorem row10_ok {l : List Nat} {i n : Nat} {ii nn : Int} {q : D → Prop} {e : Str → Prop} (hi : ii = (i : Int)) (hn : nn = (n : Int)) (hl : l.length ≤ 1000000) (hb : n ≤ 200000) (hin : i ≤ n) (h1 : ∀ z : ZRow, z.ok → l = z.txt → z.rng i n → q z.x) (h2 : (∀ z : ZRow, z.ok → l = z.txt → ¬ z.rng i n) → q .non) : (F_L_row [.str l, .int ii, .int nn]).run q e := by
  subst hi hn
  obtain ⟨w, rest, hs⟩ : ∃ w rest, TL.spl [32] 0 [] l = w :: rest := by
    cases h : TL.spl [32] 0 [] l with
    | nil => exact absurd h (spl_ne _ _ _ _)
    | cons w r => exact ⟨w, r, rfl⟩
  have hfree : ∀ x ∈ w :: rest, 32 ∉ x := fun x hx => split_free l.length l [] (Nat.le_refl _) (fun z => nomatch z) x (by rw [hs]; exact hx)
  have hlen : ∀ x ∈ w :: rest, x.length ≤ 10000000 := fun x hx => Nat.le_trans (split_len (S := [32]) (by decide) (by rw [hs]; exact hx)) (by omega)
  have hws : ∀ z : ZRow, z.ok → l = z.txt → w :: rest = z.ws := fun z ok hz => by rw [← hs, hz, spl_txt ok]
  have hof : ∀ z : ZRow, w :: rest = z.ws → l = z.txt := fun z hz => txt_of (by rw [hs, hz])
  have mem : ∀ z : ZRow, z.ok → w :: rest = z.ws → w ∈ [wSet, wMove, wCons, wHead, wTail, wJump] := fun z ok hz => by
    cases z with
    | set a t => injection hz with h _; rw [h]; decide
    | two v a b =>
      injection hz with h _
      rw [h]
      rcases ok with rfl | rfl | rfl | rfl <;> decide
    | three a b c => injection hz with h _; rw [h]; decide
  have no : (∀ z : ZRow, z.ok → w :: rest = z.ws → z.rng i n → False) → q .non := fun h => h2 fun z ok hz hr => h z ok (hws z ok hz) hr
  have hmany := split_many (S := [32]) (by decide) l
  rw [hs] at hmany
  have small : ∀ {z : ZRow}, z.rng i n → z.small 1000000000 := fun {z} h => rng_small (by decide) (by omega) hin h
  unfold F_L_row
  walk_at "d"
  refine wo_split (by decide) (by decide) (by omega) ?_
  rw [hs, List.map_cons]
  walk_at "w"
  refine wn_six5 ?_
  refine wk_nif (fun g => ?_) (fun g => ?_)
  · have g := of_decide_eq_true g
    have bad3 : ¬ rest.length = 2 → w ≠ wCons → q .non := fun hr hw => no fun z ok hz _ => by
      cases z with
      | set a t => injection hz with _ hz; exact hr (by rw [hz]; rfl)
      | two v a b => injection hz with _ hz; exact hr (by rw [hz]; rfl)
      | three a b c => injection hz with hz _; exact hw hz
    have bad4 : ¬ rest.length = 3 → w = wCons → q .non := fun hr hw => no fun z ok hz _ => by
      cases z with
      | set a t => injection hz with hz _; rw [hw] at hz; exact absurd hz (by decide)
      | two v a b =>
        injection hz with hz _
        rw [hw] at hz
        rcases ok with rfl | rfl | rfl | rfl <;> exact absurd hz (by decide)
      | three a b c => injection hz with _ hz; exact hr (by rw [hz]; rfl)
    have len2 : rest.length = 2 → ∃ a b, rest = [a, b] := fun h => match rest, h with
      | [a, b], _ => ⟨a, b, rfl⟩
    have len3 : rest.length = 3 → ∃ a b c, rest = [a, b, c] := fun h => match rest, h with
      | [a, b, c], _ => ⟨a, b, c, rfl⟩
    walk_at "w"
    simp only [List.mem_cons, List.not_mem_nil, or_false] at g
    rcases g with rfl | rfl | rfl | rfl | rfl | rfl
    · walk_at "w"
      refine wk_nif (fun g => ?_) (fun g => ?_)
      · have g := of_decide_eq_true g
        rw [List.length_cons, List.length_map, if_neg (by decide)] at g
        obtain ⟨a, t, rfl⟩ := len2 (by omega)
        simp only [List.map_cons, List.map_nil]
        walk_at "w"
        rw [drop1_cut, List.drop_succ_cons, List.drop_zero]
        refine wlenD (by decide) ?_
        walk_at "w"
        refine numD_ok (hlen a (by simp)) fun d1 hd1 => ?_
        walk_at "w"
        refine numD_ok (hlen t (by simp)) fun d2 hd2 => ?_
        walk_at "w"
        unfold F_L_row_s3
        walk_at "w"
        have zs : ∀ (z : ZRow), [wSet, a, t] = z.ws → z.ok → ∃ m : Int, z = .set m t ∧ a = intL m := fun z hz ok => by
          cases z with
          | set a' t' => simp only [ZRow.ws, List.cons.injEq, and_true] at hz; exact ⟨a', by rw [hz.2.2], hz.2.1⟩
          | two v a' b' => injection hz with hz _; subst hz; rcases ok with h | h | h | h <;> exact absurd h (by decide)
          | three a' b' c' => simp [ZRow.ws] at hz
        refine istree10_ok (hlen t (by simp)) ?_
        walk_at "w"
        refine wk_nif (fun gt => ?_) (fun gt => ?_)
        · have gt := of_decide_eq_true gt
          walk_at "w"
          rcases hd1 with ⟨m, hm, hms, rfl⟩ | ⟨no1, rfl⟩
          · walk_at "w"
            refine wk_dec (fun g1 => ?_) (fun g1 => ?_)
            · walk_at "w"
              refine wk_nif (fun g2 => ?_) (fun g2 => ?_)
              · have g2 := of_decide_eq_true g2
                walk_at "w"
                exact h1 (.set m t) (hfree t (by simp)) (hof _ (by rw [hm]; rfl)) ⟨⟨g1, g2⟩, gt⟩
              · have g2 := of_decide_eq_false g2
                walk_at "w"
                refine no fun z ok hz hr => ?_
                obtain ⟨m', rfl, e⟩ := zs z hz ok
                have : m = m' := intL_inj (hm.symm.trans e)
                subst this
                exact g2 hr.1.2
            · walk_at "w"
              refine no fun z ok hz hr => ?_
              obtain ⟨m', rfl, e⟩ := zs z hz ok
              have : m = m' := intL_inj (hm.symm.trans e)
              subst this
              exact g1 hr.1.1
          · walk_at "w"
            refine no fun z ok hz hr => ?_
            obtain ⟨m', rfl, e⟩ := zs z hz ok
            exact no1 m' e (small hr m' (by simp [ZRow.ints]))
        · have gt := of_decide_eq_false gt
          walk_at "w"
          refine no fun z ok hz hr => ?_
          obtain ⟨m', rfl, e⟩ := zs z hz ok
          exact gt hr.2
      · have g := of_decide_eq_false g
        rw [List.length_cons, List.length_map, if_neg (by decide)] at g
        walk_at "w"
        exact bad3 (by omega) (by decide)
    · walk_at "w"
      refine wk_nif (fun g => ?_) (fun g => ?_)
      · have g := of_decide_eq_true g
        rw [List.length_cons, List.length_map, if_neg (by decide)] at g
        obtain ⟨a, b, rfl⟩ := len2 (by omega)
        simp only [List.map_cons, List.map_nil]
        walk_at "w"
        rw [drop1_cut, List.drop_succ_cons, List.drop_zero]
        refine wlenD (by decide) ?_
        walk_at "w"
        refine numD_ok (hlen a (by simp)) fun d1 hd1 => ?_
        walk_at "w"
        refine numD_ok (hlen b (by simp)) fun d2 hd2 => ?_
        walk_at "w"
        unfold F_L_row_s3
        walk_at "w"
        have wok : ∀ m k : Int, (ZRow.two wMove m k).ok := fun m k => (by decide : wMove = wMove ∨ wMove = wHead ∨ wMove = wTail ∨ wMove = wJump)
        have zs : ∀ (z : ZRow), [wMove, a, b] = z.ws → z.ok → ∃ m k : Int, z = .two wMove m k ∧ a = intL m ∧ b = intL k := fun z hz ok => by
          cases z with
          | set a' t' => simp [ZRow.ws, wSet, wMove] at hz
          | two v a' b' => simp only [ZRow.ws, List.cons.injEq, and_true] at hz; exact ⟨a', b', by rw [← hz.1], hz.2.1, hz.2.2⟩
          | three a' b' c' => simp [ZRow.ws] at hz
        rcases hd1 with ⟨m, hm, hms, rfl⟩ | ⟨no1, rfl⟩
        · rcases hd2 with ⟨k, hk, hks, rfl⟩ | ⟨no2, rfl⟩
          · have same : ∀ z : ZRow, z.ok → [wMove, a, b] = z.ws → z = .two wMove m k := fun z ok hz => by
              obtain ⟨m', k', rfl, e1, e2⟩ := zs z hz ok
              rw [intL_inj (hm.symm.trans e1), intL_inj (hk.symm.trans e2)]
            refine wo_inl rfl rfl ?_
            walk_at "w"
            refine wk_ff rfl ?_
            walk_at "w"
            refine wk_dec (fun g1 => ?_) (fun g1 => ?_)
            · walk_at "w"
              refine wk_nif (fun g2 => ?_) (fun g2 => ?_)
              · have g2 := of_decide_eq_true g2
                walk_at "w"
                refine wk_yes g1 ?_
                walk_at "w"
                rw [decide_eq_true g2]
                refine wk_dec (fun g3 => ?_) (fun g3 => ?_)
                · walk_at "w"
                  show (dAll (.lst ([true, decide (k ≤ 19)].map D.bl))).rn _ _
                  refine wo_all ?_
                  walk_at "w"
                  rw [show ([true, decide (k ≤ 19)].all id) = decide (k ≤ 19) by simp]
                  refine wk_nif (fun g4 => ?_) (fun g4 => ?_)
                  · have g4 := of_decide_eq_true g4
                    walk_at "w"
                    exact wo_addt (by show 1 + 2 ≤ 16777216; decide) (h1 (.two wMove m k) (wok m k) (hof _ (by rw [hm, hk]; rfl)) (show reg20 m ∧ reg20 k from ⟨⟨g1, g2⟩, g3, g4⟩))
                  · have g4 := of_decide_eq_false g4
                    walk_at "w"
                    refine no fun z ok hz hr => ?_
                    rw [same z ok hz] at hr
                    exact g4 (show reg20 m ∧ reg20 k from hr).2.2
                · walk_at "w"
                  show (dAll (.lst ([true, false].map D.bl))).rn _ _
                  refine wo_all ?_
                  walk_at "w"
                  refine no fun z ok hz hr => ?_
                  rw [same z ok hz] at hr
                  exact g3 (show reg20 m ∧ reg20 k from hr).2.1
              · have g2 := of_decide_eq_false g2
                walk_at "w"
                refine no fun z ok hz hr => ?_
                rw [same z ok hz] at hr
                exact g2 (show reg20 m ∧ reg20 k from hr).1.2
            · walk_at "w"
              refine no fun z ok hz hr => ?_
              rw [same z ok hz] at hr
              exact g1 (show reg20 m ∧ reg20 k from hr).1.1
          · refine wo_inl rfl rfl ?_
            walk_at "w"
            refine wk_tt rfl ?_
            walk_at "w"
            refine no fun z ok hz hr => ?_
            obtain ⟨m', k', rfl, e1, e2⟩ := zs z hz ok
            exact no2 k' e2 (small hr k' (by simp [ZRow.ints]))
        · refine wo_inl rfl (by rcases hd2 with ⟨k, hk, hks, rfl⟩ | ⟨no2, rfl⟩ <;> rfl) ?_
          walk_at "w"
          refine wk_tt rfl ?_
          walk_at "w"
          refine no fun z ok hz hr => ?_
          obtain ⟨m', k', rfl, e1, e2⟩ := zs z hz ok
          exact no1 m' e1 (small hr m' (by simp [ZRow.ints]))
      · have g := of_decide_eq_false g
        rw [List.length_cons, List.length_map, if_neg (by decide)] at g
        walk_at "w"
        exact bad3 (by omega) (by decide)
    · walk_at "w"
      refine wk_nif (fun g => ?_) (fun g => ?_)
      · have g := of_decide_eq_true g
        rw [List.length_cons, List.length_map, if_pos (by decide)] at g
        obtain ⟨a, b, c, rfl⟩ := len3 (by omega)
        simp only [List.map_cons, List.map_nil]
        walk_at "w"
        rw [drop1_cut, List.drop_succ_cons, List.drop_zero]
        refine wlenD (by decide) ?_
        walk_at "w"
        refine numD_ok (hlen a (by simp)) fun d1 hd1 => ?_
        walk_at "w"
        refine numD_ok (hlen b (by simp)) fun d2 hd2 => ?_
        walk_at "w"
        refine numD_ok (hlen c (by simp)) fun d3 hd3 => ?_
        walk_at "w"
        unfold F_L_row_s3
        walk_at "w"
        have zs : ∀ (z : ZRow), [wCons, a, b, c] = z.ws → z.ok → ∃ m k o : Int, z = .three m k o ∧ a = intL m ∧ b = intL k ∧ c = intL o := fun z hz ok => by
          cases z with
          | set a' t' => simp [ZRow.ws] at hz
          | two v a' b' => simp [ZRow.ws] at hz
          | three a' b' c' => simp only [ZRow.ws, List.cons.injEq, and_true] at hz; exact ⟨a', b', c', rfl, hz.2.1, hz.2.2.1, hz.2.2.2⟩
        have fl : ∀ {x : List Nat} {d : D}, NumD x d → d.flat 63 = true := fun {x d} h => by rcases h with ⟨k, hk, hks, rfl⟩ | ⟨no2, rfl⟩ <;> rfl
        have f3 : (D.lst [d1, d2, d3]).flat 64 = true := by
          show (d1.flat 63 && (d2.flat 63 && (d3.flat 63 && true))) = true
          rw [fl hd1, fl hd2, fl hd3]; rfl
        rcases hd1 with ⟨m, hm, hms, rfl⟩ | ⟨no1, rfl⟩
        · rcases hd2 with ⟨k, hk, hks, rfl⟩ | ⟨no2, rfl⟩
          · rcases hd3 with ⟨o, ho, hos, rfl⟩ | ⟨no3, rfl⟩
            · have same : ∀ z : ZRow, z.ok → [wCons, a, b, c] = z.ws → z = .three m k o := fun z ok hz => by
                obtain ⟨m', k', o', rfl, e1, e2, e3⟩ := zs z hz ok
                rw [intL_inj (hm.symm.trans e1), intL_inj (hk.symm.trans e2), intL_inj (ho.symm.trans e3)]
              refine wo_inl rfl f3 ?_
              walk_at "w"
              refine wk_ff rfl ?_
              walk_at "w"
              refine wk_dec (fun g1 => ?_) (fun g1 => ?_)
              · walk_at "w"
                refine wk_nif (fun g2 => ?_) (fun g2 => ?_)
                · have g2 := of_decide_eq_true g2
                  walk_at "w"
                  refine wk_yes g1 ?_
                  walk_at "w"
                  rw [decide_eq_true g2]
                  refine wk_dec (fun g3 => ?_) (fun g3 => ?_)
                  · walk_at "w"
                    refine wk_dec (fun g5 => ?_) (fun g5 => ?_)
                    · walk_at "w"
                      show (dAll (.lst ([true, decide (k ≤ 19), decide (o ≤ 19)].map D.bl))).rn _ _
                      refine wo_all ?_
                      walk_at "w"
                      rw [show ([true, decide (k ≤ 19), decide (o ≤ 19)].all id) = decide (k ≤ 19 ∧ o ≤ 19) by simp]
                      refine wk_nif (fun g4 => ?_) (fun g4 => ?_)
                      · have g4 := of_decide_eq_true g4
                        walk_at "w"
                        exact wo_addt (by show 1 + 3 ≤ 16777216; decide) (h1 (.three m k o) trivial (hof _ (by rw [hm, hk, ho]; rfl)) ⟨⟨g1, g2⟩, ⟨g3, g4.1⟩, g5, g4.2⟩)
                      · have g4 := of_decide_eq_false g4
                        walk_at "w"
                        refine no fun z ok hz hr => ?_
                        rw [same z ok hz] at hr
                        exact g4 ⟨hr.2.1.2, hr.2.2.2⟩
                    · walk_at "w"
                      show (dAll (.lst ([true, decide (k ≤ 19), false].map D.bl))).rn _ _
                      refine wo_all ?_
                      walk_at "w"
                      rw [show ([true, decide (k ≤ 19), false].all id) = false by simp]
                      walk_at "w"
                      refine no fun z ok hz hr => ?_
                      rw [same z ok hz] at hr
                      exact g5 hr.2.2.1
                  · walk_at "w"
                    have bad : ∀ y : Bool, ([true, false, y].all id) = false := fun y => by cases y <;> rfl
                    have fin : ∀ z : ZRow, z.ok → [wCons, a, b, c] = z.ws → z.rng i n → False := fun z ok hz hr => by
                      rw [same z ok hz] at hr
                      exact g3 hr.2.1.1
                    refine wk_dec (fun g5 => ?_) (fun g5 => ?_)
                    · walk_at "w"
                      show (dAll (.lst ([true, false, decide (o ≤ 19)].map D.bl))).rn _ _
                      refine wo_all ?_
                      walk_at "w"
                      rw [bad]
                      walk_at "w"
                      exact no fin
                    · walk_at "w"
                      show (dAll (.lst ([true, false, false].map D.bl))).rn _ _
                      refine wo_all ?_
                      walk_at "w"
                      exact no fin
                · have g2 := of_decide_eq_false g2
                  walk_at "w"
                  refine no fun z ok hz hr => ?_
                  rw [same z ok hz] at hr
                  exact g2 hr.1.2
              · walk_at "w"
                refine no fun z ok hz hr => ?_
                rw [same z ok hz] at hr
                exact g1 hr.1.1
            · refine wo_inl rfl f3 ?_
              walk_at "w"
              refine wk_tt rfl ?_
              walk_at "w"
              refine no fun z ok hz hr => ?_
              obtain ⟨m', k', o', rfl, e1, e2, e3⟩ := zs z hz ok
              exact no3 o' e3 (small hr o' (by simp [ZRow.ints]))
          · refine wo_inl rfl f3 ?_
            walk_at "w"
            refine wk_tt rfl ?_
            walk_at "w"
            refine no fun z ok hz hr => ?_
            obtain ⟨m', k', o', rfl, e1, e2, e3⟩ := zs z hz ok
            exact no2 k' e2 (small hr k' (by simp [ZRow.ints]))
        · refine wo_inl rfl f3 ?_
          walk_at "w"
          refine wk_tt rfl ?_
          walk_at "w"
          refine no fun z ok hz hr => ?_
          obtain ⟨m', k', o', rfl, e1, e2, e3⟩ := zs z hz ok
          exact no1 m' e1 (small hr m' (by simp [ZRow.ints]))
      · have g := of_decide_eq_false g
        rw [List.length_cons, List.length_map, if_pos (by decide)] at g
        walk_at "w"
        exact bad4 (by omega) rfl
    · walk_at "w"
      refine wk_nif (fun g => ?_) (fun g => ?_)
      · have g := of_decide_eq_true g
        rw [List.length_cons, List.length_map, if_neg (by decide)] at g
        obtain ⟨a, b, rfl⟩ := len2 (by omega)
        simp only [List.map_cons, List.map_nil]
        walk_at "w"
        rw [drop1_cut, List.drop_succ_cons, List.drop_zero]
        refine wlenD (by decide) ?_
        walk_at "w"
        refine numD_ok (hlen a (by simp)) fun d1 hd1 => ?_
        walk_at "w"
        refine numD_ok (hlen b (by simp)) fun d2 hd2 => ?_
        walk_at "w"
        unfold F_L_row_s3
        walk_at "w"
        have wok : ∀ m k : Int, (ZRow.two wHead m k).ok := fun m k => (by decide : wHead = wMove ∨ wHead = wHead ∨ wHead = wTail ∨ wHead = wJump)
        have zs : ∀ (z : ZRow), [wHead, a, b] = z.ws → z.ok → ∃ m k : Int, z = .two wHead m k ∧ a = intL m ∧ b = intL k := fun z hz ok => by
          cases z with
          | set a' t' => simp [ZRow.ws, wSet, wHead] at hz
          | two v a' b' => simp only [ZRow.ws, List.cons.injEq, and_true] at hz; exact ⟨a', b', by rw [← hz.1], hz.2.1, hz.2.2⟩
          | three a' b' c' => simp [ZRow.ws] at hz
        rcases hd1 with ⟨m, hm, hms, rfl⟩ | ⟨no1, rfl⟩
        · rcases hd2 with ⟨k, hk, hks, rfl⟩ | ⟨no2, rfl⟩
          · have same : ∀ z : ZRow, z.ok → [wHead, a, b] = z.ws → z = .two wHead m k := fun z ok hz => by
              obtain ⟨m', k', rfl, e1, e2⟩ := zs z hz ok
              rw [intL_inj (hm.symm.trans e1), intL_inj (hk.symm.trans e2)]
            refine wo_inl rfl rfl ?_
            walk_at "w"
            refine wk_ff rfl ?_
            walk_at "w"
            refine wk_dec (fun g1 => ?_) (fun g1 => ?_)
            · walk_at "w"
              refine wk_nif (fun g2 => ?_) (fun g2 => ?_)
              · have g2 := of_decide_eq_true g2
                walk_at "w"
                refine wk_yes g1 ?_
                walk_at "w"
                rw [decide_eq_true g2]
                refine wk_dec (fun g3 => ?_) (fun g3 => ?_)
                · walk_at "w"
                  show (dAll (.lst ([true, decide (k ≤ 19)].map D.bl))).rn _ _
                  refine wo_all ?_
                  walk_at "w"
                  rw [show ([true, decide (k ≤ 19)].all id) = decide (k ≤ 19) by simp]
                  refine wk_nif (fun g4 => ?_) (fun g4 => ?_)
                  · have g4 := of_decide_eq_true g4
                    walk_at "w"
                    exact wo_addt (by show 1 + 2 ≤ 16777216; decide) (h1 (.two wHead m k) (wok m k) (hof _ (by rw [hm, hk]; rfl)) (show reg20 m ∧ reg20 k from ⟨⟨g1, g2⟩, g3, g4⟩))
                  · have g4 := of_decide_eq_false g4
                    walk_at "w"
                    refine no fun z ok hz hr => ?_
                    rw [same z ok hz] at hr
                    exact g4 (show reg20 m ∧ reg20 k from hr).2.2
                · walk_at "w"
                  show (dAll (.lst ([true, false].map D.bl))).rn _ _
                  refine wo_all ?_
                  walk_at "w"
                  refine no fun z ok hz hr => ?_
                  rw [same z ok hz] at hr
                  exact g3 (show reg20 m ∧ reg20 k from hr).2.1
              · have g2 := of_decide_eq_false g2
                walk_at "w"
                refine no fun z ok hz hr => ?_
                rw [same z ok hz] at hr
                exact g2 (show reg20 m ∧ reg20 k from hr).1.2
            · walk_at "w"
              refine no fun z ok hz hr => ?_
              rw [same z ok hz] at hr
              exact g1 (show reg20 m ∧ reg20 k from hr).1.1
          · refine wo_inl rfl rfl ?_
            walk_at "w"
            refine wk_tt rfl ?_
            walk_at "w"
            refine no fun z ok hz hr => ?_
            obtain ⟨m', k', rfl, e1, e2⟩ := zs z hz ok
            exact no2 k' e2 (small hr k' (by simp [ZRow.ints]))
        · refine wo_inl rfl (by rcases hd2 with ⟨k, hk, hks, rfl⟩ | ⟨no2, rfl⟩ <;> rfl) ?_
          walk_at "w"
          refine wk_tt rfl ?_
          walk_at "w"
          refine no fun z ok hz hr => ?_
          obtain ⟨m', k', rfl, e1, e2⟩ := zs z hz ok
          exact no1 m' e1 (small hr m' (by simp [ZRow.ints]))
      · have g := of_decide_eq_false g
        rw [List.length_cons, List.length_map, if_neg (by decide)] at g
        walk_at "w"
        exact bad3 (by omega) (by decide)
    · walk_at "w"
      refine wk_nif (fun g => ?_) (fun g => ?_)
      · have g := of_decide_eq_true g
        rw [List.length_cons, List.length_map, if_neg (by decide)] at g
        obtain ⟨a, b, rfl⟩ := len2 (by omega)
        simp only [List.map_cons, List.map_nil]
        walk_at "w"
        rw [drop1_cut, List.drop_succ_cons, List.drop_zero]
        refine wlenD (by decide) ?_
        walk_at "w"
        refine numD_ok (hlen a (by simp)) fun d1 hd1 => ?_
        walk_at "w"
        refine numD_ok (hlen b (by simp)) fun d2 hd2 => ?_
        walk_at "w"
        unfold F_L_row_s3
        walk_at "w"
        have wok : ∀ m k : Int, (ZRow.two wTail m k).ok := fun m k => (by decide : wTail = wMove ∨ wTail = wHead ∨ wTail = wTail ∨ wTail = wJump)
        have zs : ∀ (z : ZRow), [wTail, a, b] = z.ws → z.ok → ∃ m k : Int, z = .two wTail m k ∧ a = intL m ∧ b = intL k := fun z hz ok => by
          cases z with
          | set a' t' => simp [ZRow.ws, wSet, wTail] at hz
          | two v a' b' => simp only [ZRow.ws, List.cons.injEq, and_true] at hz; exact ⟨a', b', by rw [← hz.1], hz.2.1, hz.2.2⟩
          | three a' b' c' => simp [ZRow.ws] at hz
        rcases hd1 with ⟨m, hm, hms, rfl⟩ | ⟨no1, rfl⟩
        · rcases hd2 with ⟨k, hk, hks, rfl⟩ | ⟨no2, rfl⟩
          · have same : ∀ z : ZRow, z.ok → [wTail, a, b] = z.ws → z = .two wTail m k := fun z ok hz => by
              obtain ⟨m', k', rfl, e1, e2⟩ := zs z hz ok
              rw [intL_inj (hm.symm.trans e1), intL_inj (hk.symm.trans e2)]
            refine wo_inl rfl rfl ?_
            walk_at "w"
            refine wk_ff rfl ?_
            walk_at "w"
            refine wk_dec (fun g1 => ?_) (fun g1 => ?_)
            · walk_at "w"
              refine wk_nif (fun g2 => ?_) (fun g2 => ?_)
              · have g2 := of_decide_eq_true g2
                walk_at "w"
                refine wk_yes g1 ?_
                walk_at "w"
                rw [decide_eq_true g2]
                refine wk_dec (fun g3 => ?_) (fun g3 => ?_)
                · walk_at "w"
                  show (dAll (.lst ([true, decide (k ≤ 19)].map D.bl))).rn _ _
                  refine wo_all ?_
                  walk_at "w"
                  rw [show ([true, decide (k ≤ 19)].all id) = decide (k ≤ 19) by simp]
                  refine wk_nif (fun g4 => ?_) (fun g4 => ?_)
                  · have g4 := of_decide_eq_true g4
                    walk_at "w"
                    exact wo_addt (by show 1 + 2 ≤ 16777216; decide) (h1 (.two wTail m k) (wok m k) (hof _ (by rw [hm, hk]; rfl)) (show reg20 m ∧ reg20 k from ⟨⟨g1, g2⟩, g3, g4⟩))
                  · have g4 := of_decide_eq_false g4
                    walk_at "w"
                    refine no fun z ok hz hr => ?_
                    rw [same z ok hz] at hr
                    exact g4 (show reg20 m ∧ reg20 k from hr).2.2
                · walk_at "w"
                  show (dAll (.lst ([true, false].map D.bl))).rn _ _
                  refine wo_all ?_
                  walk_at "w"
                  refine no fun z ok hz hr => ?_
                  rw [same z ok hz] at hr
                  exact g3 (show reg20 m ∧ reg20 k from hr).2.1
              · have g2 := of_decide_eq_false g2
                walk_at "w"
                refine no fun z ok hz hr => ?_
                rw [same z ok hz] at hr
                exact g2 (show reg20 m ∧ reg20 k from hr).1.2
            · walk_at "w"
              refine no fun z ok hz hr => ?_
              rw [same z ok hz] at hr
              exact g1 (show reg20 m ∧ reg20 k from hr).1.1
          · refine wo_inl rfl rfl ?_
            walk_at "w"
            refine wk_tt rfl ?_
            walk_at "w"
            refine no fun z ok hz hr => ?_
            obtain ⟨m', k', rfl, e1, e2⟩ := zs z hz ok
            exact no2 k' e2 (small hr k' (by simp [ZRow.ints]))
        · refine wo_inl rfl (by rcases hd2 with ⟨k, hk, hks, rfl⟩ | ⟨no2, rfl⟩ <;> rfl) ?_
          walk_at "w"
          refine wk_tt rfl ?_
          walk_at "w"
          refine no fun z ok hz hr => ?_
          obtain ⟨m', k', rfl, e1, e2⟩ := zs z hz ok
          exact no1 m' e1 (small hr m' (by simp [ZRow.ints]))
      · have g := of_decide_eq_false g
        rw [List.length_cons, List.length_map, if_neg (by decide)] at g
        walk_at "w"
        exact bad3 (by omega) (by decide)
    · walk_at "w"
      refine wk_nif (fun g => ?_) (fun g => ?_)
      · have g := of_decide_eq_true g
        rw [List.length_cons, List.length_map, if_neg (by decide)] at g
        obtain ⟨a, b, rfl⟩ := len2 (by omega)
        simp only [List.map_cons, List.map_nil]
        walk_at "w"
        rw [drop1_cut, List.drop_succ_cons, List.drop_zero]
        refine wlenD (by decide) ?_
        walk_at "w"
        refine numD_ok (hlen a (by simp)) fun d1 hd1 => ?_
        walk_at "w"
        refine numD_ok (hlen b (by simp)) fun d2 hd2 => ?_
        walk_at "w"
        unfold F_L_row_s3
        walk_at "w"
        have wok : ∀ m k : Int, (ZRow.two wJump m k).ok := fun m k => (by decide : wJump = wMove ∨ wJump = wHead ∨ wJump = wTail ∨ wJump = wJump)
        have zs : ∀ (z : ZRow), [wJump, a, b] = z.ws → z.ok → ∃ m k : Int, z = .two wJump m k ∧ a = intL m ∧ b = intL k := fun z hz ok => by
          cases z with
          | set a' t' => simp [ZRow.ws, wSet, wJump] at hz
          | two v a' b' => simp only [ZRow.ws, List.cons.injEq, and_true] at hz; exact ⟨a', b', by rw [← hz.1], hz.2.1, hz.2.2⟩
          | three a' b' c' => simp [ZRow.ws] at hz
        rcases hd1 with ⟨m, hm, hms, rfl⟩ | ⟨no1, rfl⟩
        · rcases hd2 with ⟨k, hk, hks, rfl⟩ | ⟨no2, rfl⟩
          · have same : ∀ z : ZRow, z.ok → [wJump, a, b] = z.ws → z = .two wJump m k := fun z ok hz => by
              obtain ⟨m', k', rfl, e1, e2⟩ := zs z hz ok
              rw [intL_inj (hm.symm.trans e1), intL_inj (hk.symm.trans e2)]
            refine wo_inl rfl rfl ?_
            walk_at "w"
            refine wk_ff rfl ?_
            walk_at "w"
            refine wk_dec (fun g1 => ?_) (fun g1 => ?_)
            · walk_at "w"
              refine wk_nif (fun g2 => ?_) (fun g2 => ?_)
              · have g2 := of_decide_eq_true g2
                walk_at "w"
                refine wk_dec (fun g3 => ?_) (fun g3 => ?_)
                · walk_at "w"
                  refine wk_nif (fun g4 => ?_) (fun g4 => ?_)
                  · have g4 := of_decide_eq_true g4
                    walk_at "w"
                    exact wo_addt (by show 1 + 2 ≤ 16777216; decide) (h1 (.two wJump m k) (wok m k) (hof _ (by rw [hm, hk]; rfl)) (show reg20 m ∧ 0 ≤ (i : Int) + k ∧ (i : Int) + k ≤ n from ⟨⟨g1, g2⟩, g3, g4⟩))
                  · have g4 := of_decide_eq_false g4
                    walk_at "w"
                    refine no fun z ok hz hr => ?_
                    rw [same z ok hz] at hr
                    exact g4 (show reg20 m ∧ 0 ≤ (i : Int) + k ∧ (i : Int) + k ≤ n from hr).2.2
                · walk_at "w"
                  refine no fun z ok hz hr => ?_
                  rw [same z ok hz] at hr
                  exact g3 (show reg20 m ∧ 0 ≤ (i : Int) + k ∧ (i : Int) + k ≤ n from hr).2.1
              · have g2 := of_decide_eq_false g2
                walk_at "w"
                refine no fun z ok hz hr => ?_
                rw [same z ok hz] at hr
                exact g2 (show reg20 m ∧ 0 ≤ (i : Int) + k ∧ (i : Int) + k ≤ n from hr).1.2
            · walk_at "w"
              refine no fun z ok hz hr => ?_
              rw [same z ok hz] at hr
              exact g1 (show reg20 m ∧ 0 ≤ (i : Int) + k ∧ (i : Int) + k ≤ n from hr).1.1
          · refine wo_inl rfl rfl ?_
            walk_at "w"
            refine wk_tt rfl ?_
            walk_at "w"
            refine no fun z ok hz hr => ?_
            obtain ⟨m', k', rfl, e1, e2⟩ := zs z hz ok
            exact no2 k' e2 (small hr k' (by simp [ZRow.ints]))
        · refine wo_inl rfl (by rcases hd2 with ⟨k, hk, hks, rfl⟩ | ⟨no2, rfl⟩ <;> rfl) ?_
          walk_at "w"
          refine wk_tt rfl ?_
          walk_at "w"
          refine no fun z ok hz hr => ?_
          obtain ⟨m', k', rfl, e1, e2⟩ := zs z hz ok
          exact no1 m' e1 (small hr m' (by simp [ZRow.ints]))
      · have g := of_decide_eq_false g
        rw [List.length_cons, List.length_map, if_neg (by decide)] at g
        walk_at "w"
        exact bad3 (by omega) (by decide)
  · walk_at "w"
    refine no fun z ok hz _ => ?_
    have := of_decide_eq_false g
    exact this (mem z ok hz)

section
variable {P : Program} {w : World} {K : PySem.W.Frag} {mg : Str → Option Value} {base : Heap}
theorem ok_L_row (T : Txt K mg w)
    (c_L_is_tree : Cal P w K mg base CX0 1 "_law_is_tree" ["_law_value"] (spF K mg 1 .v F_L_is_tree))
    (c_L_number : Cal P w K mg base CX0 1 "_law_number" ["_law_word"] (spF K mg 1 .v F_L_number)) : Cal P w K mg base CX0 2 "_law_row" ["_law_line", "_law_at", "_law_many"] (spF K mg 3 .v F_L_row) := by
  refine T.f_L_row.ok sc_L_row (fun vs H Q E h => spF_len h) (fun f cdv A outer s H vs Q E hr h => ⟨_, (pss_cons (ps_set (i := 3) sc_L_row.nd rfl (.inl rfl) (pe_split (nv 0) pe_str))
      (pss_cons (ps_if (PW.pt (pw_or (nCmp (oNotIn (K := K)) (pe_ix (ixU (K := K)) (nv 3) pe_int (fun _ _ => rfl)) (pe_tup (pa_cons pe_str (pa_cons pe_str (pa_cons pe_str (pa_cons pe_str (pa_cons pe_str (pa_cons pe_str pa_nil))))))) (by rfl)) (pw_or1 (nCmp (oNe (K := K) hr.units) (pe_callB (cLen (K := K)) (by rfl) T.n_len PySem.boot_len (pa_cons (nv 3) pa_nil)) (pe_op (oAdd (K := K)) pe_int (pe_callTy cIntA (by rfl) T.n_int PyProof.Rows.boot_int (pa_cons (pe_cmpR (oEq (K := K) hr.units) (pe_ix (ixU (K := K)) (nv 3) pe_int (fun _ _ => rfl)) pe_str (nomark _)) pa_nil))) (nomark _))))) (pss_one (ps_ret pe_non)) pss_nil)
      (pss_cons (ps_setLc (i := 4) (own := [("_law_word", 5)]) (g := gName 5) (tt := tYes) rfl sc_L_row.nd rfl rfl (sw_true rfl rfl rfl (by decide +kernel)) (piAny (K := K) (pe_slice (slU (K := K)) (nv 3) (po_some pe_int) po_none)) (blkOk_by (own := [("_law_word", 5)]) (N := ["_law_line", "_law_at", "_law_many", "_law_words", "_law_numbers", "_law_word", "_law_number_here"]) (sc := defScope s_L_row) (by decide +kernel)) (fun _ _ _ _ _ => (pg_name (i := 5) sc_L_row.nd rfl (.inl rfl))) (fun _ _ _ _ _ => pts_nil) (fun _ _ _ _ _ => (nCall c_L_number (hr.mono (by decide)) pass0 (pa_cons (nv 5) pa_nil))))
      (pss_cons (ps_if (nCmp (oEq (K := K) hr.units) (pe_ix (ixU (K := K)) (nv 3) pe_int (fun _ _ => rfl)) pe_str (nomark _)) (pss_cons (ps_if (PW.pt (pw_or (pt_not (nVal (nCall c_L_is_tree (hr.mono (by decide)) pass0 (pa_cons (pe_ix (ixU (K := K)) (nv 3) pe_int (fun _ _ => rfl)) pa_nil)))) (pw_or (nCmp oIs (pe_ix (ixU (K := K)) (nv 4) pe_int (fun _ _ => rfl)) pe_non (nomark _)) (pw_or1 (pt_not (pt_chain oLe oLe pe_int (pe_ix (ixU (K := K)) (nv 4) pe_int (fun _ _ => rfl)) pe_int)))))) (pss_one (ps_ret pe_non)) pss_nil)
      (pss_one (ps_ret (pe_tup (pa_cons pe_str (pa_cons (pe_ix (ixU (K := K)) (nv 4) pe_int (fun _ _ => rfl)) (pa_cons (pe_ix (ixU (K := K)) (nv 3) pe_int (fun _ _ => rfl)) pa_nil))))))) pss_nil)
      (pss_cons (ps_if (PW.pt (pw_or (nCmp (oInDL (K := K) hr) pe_non (nv 4) (by rfl)) (pw_or1 (pt_not (pt_chain oLe oLe pe_int (pe_ix (ixU (K := K)) (nv 4) pe_int (fun _ _ => rfl)) pe_int))))) (pss_one (ps_ret pe_non)) pss_nil)
      (pss_cons (ps_if (nCmp (oEq (K := K) hr.units) (pe_ix (ixU (K := K)) (nv 3) pe_int (fun _ _ => rfl)) pe_str (nomark _)) (pss_one (ps_if (pt_not (pt_chain oLe oLe pe_int (pe_op (oAdd (K := K)) (nv 1) (pe_ix (ixU (K := K)) (nv 4) pe_int (fun _ _ => rfl))) (nv 2))) (pss_one (ps_ret pe_non)) pss_nil)) (pss_one (ps_if (pt_not (nVal (pe_callB (cr_all rfl) (by rfl) T.n_all PyProof.Rows.boot_all (pa_cons (pe_lc (own := [("_law_number_here", 6)]) (g := gName 6) (tt := tYes) rfl sc_L_row.nd (piAny (K := K) (nv 4)) (blkOk_by (own := [("_law_number_here", 6)]) (N := ["_law_line", "_law_at", "_law_many", "_law_words", "_law_numbers", "_law_word", "_law_number_here"]) (sc := defScope s_L_row) (by decide +kernel)) (fun _ _ _ _ _ => (pg_name (i := 6) sc_L_row.nd rfl (.inl rfl))) (fun _ _ _ _ _ => pts_nil) (fun _ _ _ _ _ => (pe_chain oLe oLe pe_int (nv 6) pe_int))) pa_nil)))) (pss_one (ps_ret pe_non)) pss_nil)))
      (pss_one (ps_ret (pe_op (oAdd (K := K)) (pe_tup (pa_cons (pe_ix (ixU (K := K)) (nv 3) pe_int (fun _ _ => rfl)) pa_nil)) (pe_callTy (cTup (K := K)) (by rfl) T.n_tuple PyProof.Rows.boot_tuple (pa_cons (nv 4) pa_nil))))))))))),
    sd_def (m := .v) (oN := []) (oB := []) (oC := []) (fun q => nomatch q)
      (sd_seq (o1 := []) (sd_set (oN := []) (pd_split (PD.s (pd_v (by decide))) (PD.s (pd_str [32] (by rfl)))) (by decide) (by decide) (by decide))
      (sd_seq (o1 := []) (sd_if (pdt_or (pdt_v (pd_op rd_notin (PD.s (pd_op rd_ix (PD.s (pd_v (by decide))) (PD.s pd_int))) (pd_tup (pda_cons (pd_str [115, 101, 116] (by rfl)) (pda_cons (pd_str [109, 111, 118, 101] (by rfl)) (pda_cons (pd_str [99, 111, 110, 115] (by rfl)) (pda_cons (pd_str [104, 101, 97, 100] (by rfl)) (pda_cons (pd_str [116, 97, 105, 108] (by rfl)) (pda_cons (pd_str [106, 117, 109, 112] (by rfl)) pda_nil))))))))) (pdt_v (pd_op rd_ne (pd_cb1 rc_len (PD.s (pd_v (by decide)))) (pd_op rd_add (PD.s pd_int) (pd_cb1 rc_int (pd_op rd_eq (PD.s (pd_op rd_ix (PD.s (pd_v (by decide))) (PD.s pd_int))) (PD.s (pd_str [99, 111, 110, 115] (by rfl)))))))))
      (sd_ret pd_non)
      sd_next)
      (sd_seq (o1 := []) (sd_set (oN := []) (pd_lc (vs := [5]) (pdi_any (pd_sl (PD.s (pd_v (by decide))) (pdo_some pd_int) pdo_no)) (pgd_n (by decide) (by decide)) pdt_yes (pd_calm (len_cons len_nil) (pda_cons (pd_v (by decide)) pda_nil))) (by decide) (by decide) (by decide))
      (sd_seq (o1 := []) (sd_if (pdt_v (pd_op rd_eq (PD.s (pd_op rd_ix (PD.s (pd_v (by decide))) (PD.s pd_int))) (PD.s (pd_str [115, 101, 116] (by rfl)))))
      (sd_seq (o1 := []) (sd_if (pdt_or (pdt_not (pdt_v (pd_calm (len_cons len_nil) (pda_cons (pd_op rd_ix (PD.s (pd_v (by decide))) (PD.s pd_int)) pda_nil)))) (pdt_or (pdt_v (pd_op rd_is (PD.s (pd_op rd_ix (PD.s (pd_v (by decide))) (PD.s pd_int))) (PD.s pd_non))) (pdt_not (pdt_test (pd_chain rd_ci rd_ci (PD.s pd_int) (PD.s (pd_op rd_ix (PD.s (pd_v (by decide))) (PD.s pd_int))) (PD.s pd_int))))))
      (sd_ret pd_non)
      sd_next)
      (sd_ret (pd_tup (pda_cons (pd_str [115, 101, 116] (by rfl)) (pda_cons (pd_op rd_ix (PD.s (pd_v (by decide))) (PD.s pd_int)) (pda_cons (pd_op rd_ix (PD.s (pd_v (by decide))) (PD.s pd_int)) pda_nil))))))
      sd_next)
      (sd_seq (o1 := []) (sd_if (pdt_or (pdt_v (pd_op rd_inl (PD.s pd_non) (PD.s (pd_v (by decide))))) (pdt_not (pdt_test (pd_chain rd_ci rd_ci (PD.s pd_int) (PD.s (pd_op rd_ix (PD.s (pd_v (by decide))) (PD.s pd_int))) (PD.s pd_int)))))
      (sd_ret pd_non)
      sd_next)
      (sd_seq (o1 := []) (sd_if (pdt_v (pd_op rd_eq (PD.s (pd_op rd_ix (PD.s (pd_v (by decide))) (PD.s pd_int))) (PD.s (pd_str [106, 117, 109, 112] (by rfl)))))
      (sd_if (pdt_not (pdt_test (pd_chain rd_ci rd_ci (PD.s pd_int) (pd_op rd_add (PD.s (pd_v (by decide))) (PD.s (pd_op rd_ix (PD.s (pd_v (by decide))) (PD.s pd_int)))) (PD.s (pd_v (by decide))))))
      (sd_ret pd_non)
      sd_next)
      (sd_if (pdt_not (pdt_v (pd_cb1 rc_all (pd_lc (vs := [6]) (pdi_any (PD.s (pd_v (by decide)))) (pgd_n (by decide) (by decide)) pdt_yes (pd_chain rd_ci rd_ci (PD.s pd_int) (PD.s (pd_v (by decide))) (PD.s pd_int))))))
      (sd_ret pd_non)
      sd_next))
      (sd_ret (pd_op rd_add (pd_tup (pda_cons (pd_op rd_ix (PD.s (pd_v (by decide))) (PD.s pd_int)) pda_nil)) (pd_cb1 rc_tup (PD.s (pd_v (by decide)))))))))))) h⟩)
end
def F_L_due_s3 : Env → W Out :=
      (fSeq (fIfS (fOr (fT (fOp dInL (fC .non) (fV 2))) (fT (fOp (dCI fun i j => decide (j < i)) (fUn dLen (fV 2)) (fC (.int (600))))))
      (fRet (fTup (fCons (fC (.str [114, 101, 102, 117, 115, 101, 100])) (fCons (fC (.str [116, 101, 120, 116])) fNil))))
      fNext)
      (fRet (fV 2)))
def F_L_due : List D → W D := defF 4
      (fSeq (fIfS (fT (fOp dEq (fV 0) (fC (.str []))))
      (fRet (fLst fNil))
      fNext)
      (fSeq (fSet 1 (fSplit (fV 0) (fC (.str [59, 32]))))
      (fSeq (fSet 2 (fLc (fRng1 (fCons (fUn dLen (fV 1)) fNil)) (fgN 3) fYes (fCalm F_L_row (fCons (fOp dIx (fV 1) (fV 3)) (fCons (fV 3) (fCons (fUn dLen (fV 1)) fNil)))) [3]))
      F_L_due_s3)))
def refusedD : D := .tup [.str [114, 101, 102, 117, 115, 101, 100], .str [116, 101, 120, 116]]
theorem any_none (zs : List ZRow) : ((zs.map ZRow.x).any fun y => eqD y .non) = false := by
  rw [List.any_map, List.any_eq_false]
  intro z _
  cases z <;> exact Bool.false_ne_true
theorem zOf_inj {a b : Row} (h : zOf a = zOf b) : a = b := by
  have e : textP [a] = textP [b] := by
    show (zOf a).txt = (zOf b).txt
    rw [h]
  have := textP_inj e
  injection this
theorem collect {n : Int} : ∀ (es : List D) (parts : List (List Nat)) (k : Nat), es.length = parts.length → (∀ (j : Nat) d, es[j]? = some d → ∃ z : ZRow, z.ok ∧ parts[j]? = some z.txt ∧ z.rng ((k + j : Nat) : Int) n ∧ d = z.x) →
    ∃ zs : List ZRow, es = zs.map ZRow.x ∧ parts = zs.map ZRow.txt ∧ (∀ z ∈ zs, z.ok) ∧ ∀ (j : Nat) (z : ZRow), zs[j]? = some z → z.rng ((k + j : Nat) : Int) n
  | [], [], _, _, _ => ⟨[], rfl, rfl, (fun z h => nomatch h), fun j z h => by simp at h⟩
  | [], _ :: _, _, h, _ => by cases h
  | _ :: _, [], _, h, _ => by cases h
  | d :: es, w :: ws, k, hl, h => by
    obtain ⟨z, ok, hw, hr, hd⟩ := h 0 d rfl
    have hw : w = z.txt := by simpa using hw
    obtain ⟨zs, e1, e2, e3, e4⟩ := collect es ws (k + 1) (by simpa using hl) fun j d hd => by
      obtain ⟨z, ok, hw, hr, hd⟩ := h (j + 1) d (by simpa using hd)
      exact ⟨z, ok, by simpa using hw, by rw [show k + 1 + j = k + (j + 1) by omega]; exact hr, hd⟩
    refine ⟨z :: zs, by rw [hd, e1]; rfl, by rw [hw, e2]; rfl, fun y hy => ?_, fun j y hj => ?_⟩
    · rcases List.mem_cons.mp hy with rfl | hy
      · exact ok
      · exact e3 y hy
    · cases j with
      | zero => simp at hj; subst hj; exact hr
      | succ j => rw [show k + (j + 1) = k + 1 + j by omega]; exact e4 j y (by simpa using hj)
theorem due10_ok {l : List Nat} {q : D → Prop} {e : Str → Prop} (hl : l.length ≤ 90000) (hc : ∀ c ∈ l, c < 256) (h1 : ∀ p, l = textP p → isProgD (prgD p) = true → q (prgX p)) (h2 : (∀ p, l = textP p → isProgD (prgD p) = false) → q refusedD) : (F_L_due [.str l]).run q e := by
  unfold F_L_due
  walk_at "d"
  refine wk_dec (fun g => ?_) (fun g => ?_)
  · subst g
    walk_at "w"
    exact h1 [] rfl (by decide +kernel)
  · walk_at "w"
    have hm := split_many (S := [59, 32]) (by decide) l
    have hjoin : TL.joinL [59, 32] (TL.spl [59, 32] 0 [] l) = l := join_split (by decide)
    have hw : ∀ w ∈ TL.spl [59, 32] 0 [] l, w.length ≤ l.length ∧ ∀ c ∈ w, c < 256 := fun w h => ⟨split_len (by decide) h, fun c hx => split_signs hc w h c hx⟩
    have hspl : ∀ p, l = textP p → TL.spl [59, 32] 0 [] l = (p.map zOf).map ZRow.txt := fun p hp => by
      have hp0 : p ≠ [] := fun e => g (by rw [hp, e]; rfl)
      rw [hp, spl_text hp0, List.map_map]; rfl
    refine wo_split (by decide) (by decide) (by omega) ?_
    generalize TL.spl [59, 32] 0 [] l = parts at hm hjoin hw hspl ⊢
    walk_at "w"
    rw [List.length_map]
    obtain ⟨n, hn⟩ : ∃ n, n = parts.length := ⟨_, rfl⟩
    rw [← hn]
    refine wk_r1 (j := n) (by omega) ?_
    refine ⟨by rw [show (rangeD 0 n).length = n by unfold rangeD; rw [List.length_map, List.length_range]]; omega, ?_⟩
    have hrg : ∀ (i : Nat) d, (rangeD 0 n)[i]? = some d → d = .int (i : Int) ∧ i < n := fun i d h => by
      unfold rangeD at h
      rw [List.getElem?_map] at h
      cases g : (List.range n)[i]? with
      | none => rw [g] at h; cases h
      | some k =>
        rw [g] at h
        have hk := List.getElem?_eq_some_iff.mp g
        obtain ⟨hk1, hk2⟩ := hk
        rw [List.getElem_range] at hk2
        rw [List.length_range] at hk1
        refine ⟨?_, hk1⟩
        have h : D.int (0 + (k : Int)) = d := by simpa using h
        rw [← h, ← hk2]; congr 1; omega
    have hrl : (rangeD 0 n).length = n := by unfold rangeD; rw [List.length_map, List.length_range]
    generalize rangeD 0 n = R at hrg hrl ⊢
    refine w_out (lcGo_inv (fun i es => es.length = i ∧ ∀ (j : Nat) d, es[j]? = some d → ∃ w, parts[j]? = some w ∧ ((∃ z : ZRow, z.ok ∧ w = z.txt ∧ z.rng (j : Int) (n : Int) ∧ d = z.x) ∨ ((∀ z : ZRow, z.ok → w = z.txt → ¬ z.rng (j : Int) (n : Int)) ∧ d = .non))) ⟨rfl, fun j d h => by simp at h⟩ (fun i d es hx he => ?_) (fun es he => ?_))
    · obtain ⟨he1, he2⟩ := he
      obtain ⟨rfl, hi⟩ := hrg i d hx
      have hpi : parts[i]? = some parts[i] := List.getElem?_eq_getElem (by omega)
      have hwm := hw _ (mem_of_get hpi)
      generalize parts[i] = w at hpi hwm
      have more : ∀ {d : D}, ((∃ z : ZRow, z.ok ∧ w = z.txt ∧ z.rng (i : Int) (n : Int) ∧ d = z.x) ∨ ((∀ z : ZRow, z.ok → w = z.txt → ¬ z.rng (i : Int) (n : Int)) ∧ d = .non)) → (es ++ [d]).length = i + 1 ∧ ∀ (j : Nat) d', (es ++ [d])[j]? = some d' → ∃ w, parts[j]? = some w ∧ ((∃ z : ZRow, z.ok ∧ w = z.txt ∧ z.rng (j : Int) (n : Int) ∧ d' = z.x) ∨ ((∀ z : ZRow, z.ok → w = z.txt → ¬ z.rng (j : Int) (n : Int)) ∧ d' = .non)) := fun {d} hd => by
        refine ⟨by rw [List.length_append, he1]; rfl, fun j d' hj => ?_⟩
        rw [List.getElem?_append] at hj
        split at hj
        · exact he2 j d' hj
        · rename_i hge
          have : j = i := by
            by_cases q : j = i
            · exact q
            · rw [List.getElem?_eq_none (by simp only [List.length_singleton]; omega)] at hj; cases hj
          subst this
          rw [he1, Nat.sub_self] at hj
          cases hj
          exact ⟨w, hpi, hd⟩
      refine w_in ?_
      walk_at "w"
      refine wo_ixl (atI_nat (v := D.str w) (by rw [List.getElem?_map, hpi]; rfl)) ?_
      walk_at "w"
      refine row10_ok rfl (by rw [List.length_map, ← hn]) (by omega) (by omega) (by omega) (fun z ok hz hr => ?_) (fun no => ?_)
      · exact more (.inl ⟨z, ok, hz, hr, rfl⟩)
      · exact more (.inr ⟨no, rfl⟩)
    · obtain ⟨he1, he2⟩ := he
      rw [hrl] at he1
      have fl : ∀ d ∈ es, d.flat 1 = true := fun d hd => by
        obtain ⟨j, hj⟩ := List.mem_iff_getElem?.mp hd
        obtain ⟨w, hw1, h⟩ := he2 j d hj
        rcases h with ⟨z, ok, hz, _, rfl⟩ | ⟨_, rfl⟩
        · exact zs_sOk ok fun c hcz => (hw w (mem_of_get hw1)).2 c (by rw [hz]; exact hcz)
        · rfl
      have fall : flatAll es 1 = true := by
        clear he1 he2
        induction es with
        | nil => rfl
        | cons d es ih =>
          show (d.flat 1 && flatAll es 1) = true
          rw [fl d List.mem_cons_self, ih fun x hx => fl x (List.mem_cons_of_mem _ hx)]; rfl
      unfold F_L_due_s3
      walk_at "w"
      refine wo_inl rfl (flat_le (n := 2) fall (by decide)) ?_
      have pget : ∀ p, l = textP p → p.length = n ∧ ∀ (j : Nat) r, p[j]? = some r → parts[j]? = some (zOf r).txt := fun p hp => by
        have e := hspl p hp
        rw [List.map_map] at e
        refine ⟨by rw [hn, e, List.length_map], fun j r hj => by rw [e, List.getElem?_map, hj]; rfl⟩
      by_cases hno : ∃ j : Nat, es[j]? = some D.non
      · obtain ⟨j, hj⟩ := hno
        have : (es.any fun y => eqD y .non) = true := List.any_eq_true.mpr ⟨.non, mem_of_get hj, rfl⟩
        rw [this]
        walk_at "w"
        refine h2 fun p hp => ?_
        cases hb : isProgD (prgD p) with
        | false => rfl
        | true =>
          exfalso
          obtain ⟨hpl, hpg⟩ := pget p hp
          obtain ⟨w, hw1, h⟩ := he2 j _ hj
          have hjl := (List.getElem?_eq_some_iff.mp hj).1
          have hr : p[j]? = some p[j] := List.getElem?_eq_getElem (by omega)
          generalize p[j] = r at hr
          have hw2 := hpg j r hr
          rw [hw1] at hw2
          have hw2 : w = (zOf r).txt := by simpa using hw2
          rcases h with ⟨z, _, _, _, e⟩ | ⟨no, _⟩
          · cases z <;> cases e
          · have := row_rng ((Prg.of hb).ok j r hr)
            rw [hpl] at this
            exact no (zOf r) (zOf_ok r) hw2 this
      · obtain ⟨zs, e1, e2, e3, e4⟩ := collect (n := (n : Int)) es parts 0 (by omega) fun j d hd => by
          obtain ⟨w, hw1, h⟩ := he2 j d hd
          rcases h with ⟨z, ok, hz, hr, e⟩ | ⟨_, rfl⟩
          · exact ⟨z, ok, by rw [hw1, hz], by rw [Nat.zero_add]; exact hr, e⟩
          · exact absurd ⟨j, hd⟩ hno
        rw [e1, any_none]
        walk_at "w"
        obtain ⟨p, hp⟩ := zs_rows (zs := zs) fun z hz => by
          obtain ⟨j, hj⟩ := List.mem_iff_getElem?.mp hz
          obtain ⟨r, hr, _⟩ := rng_row (e3 z hz) (e4 j z hj)
          exact ⟨r, hr⟩
        have htp : l = textP p := by
          rw [← hjoin, e2, hp, List.map_map]; rfl
        have hpn := (pget p htp).1
        have hok : OkPrg 20 p := fun j r hr => by
          have hz : zs[j]? = some (zOf r) := by rw [hp, List.getElem?_map, hr]; rfl
          obtain ⟨r', e5, e6⟩ := rng_row (zOf_ok r) (e4 j _ hz)
          rw [← zOf_inj e5, Nat.zero_add] at e6
          rw [hpn]; exact e6
        have hzl : (zs.map ZRow.x).length = p.length := by rw [hp, List.length_map, List.length_map]
        have hex : D.lst (zs.map ZRow.x) = prgX p := by rw [hp, map_zOf_x]; rfl
        have htl : (textP p).length ≤ 200000 := by rw [← htp]; omega
        rw [hex]
        walk_at "w"
        refine wk_dec (fun g6 => ?_) (fun g6 => ?_)
        · walk_at "w"
          refine h2 fun p' hp' => ?_
          have : p' = p := textP_inj (hp'.symm.trans htp)
          rw [this]
          cases hb : isProgD (prgD p) with
          | false => rfl
          | true =>
            have := (Prg.of hb).len
            rw [hzl] at g6
            omega
        · walk_at "w"
          refine h1 p htp ((text_is htl).mpr ⟨?_, hok⟩)
          rw [hzl] at g6
          omega

section
variable {P : Program} {w : World} {K : PySem.W.Frag} {mg : Str → Option Value} {base : Heap}
theorem ok_L_due (T : Txt K mg w)
    (c_L_row : Cal P w K mg base CX0 2 "_law_row" ["_law_line", "_law_at", "_law_many"] (spF K mg 3 .v F_L_row)) : Cal P w K mg base CX0 3 "_law_due" ["_law_line"] (spF K mg 1 .v F_L_due) := by
  refine T.f_L_due.ok sc_L_due (fun vs H Q E h => spF_len h) (fun f cdv A outer s H vs Q E hr h => ⟨_, (pss_cons (ps_if (nCmp (oEq (K := K) hr.units) (nv 0) pe_str (nomark _)) (pss_one (ps_ret (pe_lst pa_nil))) pss_nil)
      (pss_cons (ps_set (i := 1) sc_L_due.nd rfl (.inr rfl) (pe_split (nv 0) pe_str))
      (pss_cons (ps_setLc (i := 2) (own := [("_law_at", 3)]) (g := gName 3) (tt := tYes) rfl sc_L_due.nd rfl rfl (sw_true rfl rfl rfl (by decide +kernel)) (pi_range1 (by rfl) T.n_range (pa_cons (pe_callB (cLen (K := K)) (by rfl) T.n_len PySem.boot_len (pa_cons (nv 1) pa_nil)) pa_nil)) (blkOk_by (own := [("_law_at", 3)]) (N := ["_law_line", "_law_lines", "_law_rows", "_law_at"]) (sc := defScope s_L_due) (by decide +kernel)) (fun _ _ _ _ _ => (pg_name (i := 3) sc_L_due.nd rfl (.inl rfl))) (fun _ _ _ _ _ => pts_nil) (fun _ _ _ _ _ => (nCall c_L_row (hr.mono (by decide)) pass0 (pa_cons (pe_ix (ixU (K := K)) (nv 1) (nv 3) (fun _ _ => rfl)) (pa_cons (nv 3) (pa_cons (pe_callB (cLen (K := K)) (by rfl) T.n_len PySem.boot_len (pa_cons (nv 1) pa_nil)) pa_nil))))))
      (pss_cons (ps_if (PW.pt (pw_or (nCmp (oInDL (K := K) hr) pe_non (nv 2) (by rfl)) (pw_or1 (nCmp oGt (pe_callB (cLen (K := K)) (by rfl) T.n_len PySem.boot_len (pa_cons (nv 2) pa_nil)) pe_int (nomark _))))) (pss_one (ps_ret (pe_tup (pa_cons pe_str (pa_cons pe_str pa_nil))))) pss_nil)
      (pss_one (ps_ret (nv 2))))))),
    sd_def (m := .v) (oN := []) (oB := []) (oC := []) (fun q => nomatch q)
      (sd_seq (o1 := []) (sd_if (pdt_v (pd_op rd_eq (PD.s (pd_v (by decide))) (PD.s (pd_str [] (by rfl)))))
      (sd_ret (pd_lst pda_nil))
      sd_next)
      (sd_seq (o1 := []) (sd_set (oN := []) (pd_split (PD.s (pd_v (by decide))) (PD.s (pd_str [59, 32] (by rfl)))) (by decide) (by decide) (by decide))
      (sd_seq (o1 := []) (sd_set (oN := []) (pd_lc (vs := [3]) (pdi_r1 (pda_cons (pd_cb1 rc_len (PD.s (pd_v (by decide)))) pda_nil)) (pgd_n (by decide) (by decide)) pdt_yes (pd_calm (len_cons (len_cons (len_cons len_nil))) (pda_cons (pd_op rd_ix (PD.s (pd_v (by decide))) (PD.s (pd_v (by decide)))) (pda_cons (pd_v (by decide)) (pda_cons (pd_cb1 rc_len (PD.s (pd_v (by decide)))) pda_nil))))) (by decide) (by decide) (by decide))
      (sd_seq (o1 := []) (sd_if (pdt_or (pdt_v (pd_op rd_inl (PD.s pd_non) (PD.s (pd_v (by decide))))) (pdt_v (pd_op rd_ci (pd_cb1 rc_len (PD.s (pd_v (by decide)))) (PD.s pd_int))))
      (sd_ret (pd_tup (pda_cons (pd_str [114, 101, 102, 117, 115, 101, 100] (by rfl)) (pda_cons (pd_str [116, 101, 120, 116] (by rfl)) pda_nil))))
      sd_next)
      (sd_ret (pd_v (by decide))))))) h⟩)
end
def F_L_given : List D → W D := defF 1
      (fSeq (fIfS (fOr (fT (fOp dIs (fV 0) (fC .non))) (fAnd (fT (fOp dIsi (fV 0) (fC (.ty "tuple")))) (fT (fOp dInD (fSl (fV 0) fNo (fSome (fC (.int (1))))) (fTup (fCons (fTup (fCons (fC (.str [114, 101, 102, 117, 115, 101, 100])) fNil)) (fCons (fTup (fCons (fC (.str [108, 97, 114, 103, 101])) fNil)) (fCons (fTup (fCons (fC (.str [119, 105, 100, 101])) fNil)) fNil))))))))
      (fRet (fLst (fCons (fC (.str [103, 105, 118, 101, 110])) fNil)))
      fNext)
      (fRet (fV 0)))
theorem given_go {d : D} {ds : List D} {q : D → Prop} {e : Str → Prop} (hf : d.flat 60 = true) (h1 : eqD (.str [114, 101, 102, 117, 115, 101, 100]) d = false) (h2 : eqD (.str [108, 97, 114, 103, 101]) d = false) (h3 : eqD (.str [119, 105, 100, 101]) d = false) (h : q (.tup (d :: ds))) : (F_L_given [.tup (d :: ds)]).run q e := by
  refine ⟨by show 1 ≤ 16777216; decide, by show 1 ≤ 16777216; decide, by show 1 ≤ 16777216; decide, by show 3 ≤ 16777216; decide, ?_⟩
  have hcut : cutL (d :: ds) none (some 1) = [d] := by
    unfold cutL
    simp [HT.sIx]
  rw [hcut]
  refine ⟨⟨?_, by decide⟩, ?_⟩
  · show (d.flat 63 && true) = true
    rw [flat_le hf (by decide)]; rfl
  · have e1 : (([D.tup [.str [114, 101, 102, 117, 115, 101, 100]], .tup [.str [108, 97, 114, 103, 101]], .tup [.str [119, 105, 100, 101]]]).any fun y => eqD y (.tup [d])) = false := by
      show ((eqD (.str [114, 101, 102, 117, 115, 101, 100]) d && true) || ((eqD (.str [108, 97, 114, 103, 101]) d && true) || ((eqD (.str [119, 105, 100, 101]) d && true) || false))) = false
      rw [h1, h2, h3]; rfl
    rw [e1]
    exact h
theorem given_lst {ds : List D} {q : D → Prop} {e : Str → Prop} (h : q (.lst ds)) : (F_L_given [.lst ds]).run q e := h
theorem given_int {i : Int} {q : D → Prop} {e : Str → Prop} (h : q (.int i)) : (F_L_given [.int i]).run q e := h
theorem given_str {l : List Nat} {q : D → Prop} {e : Str → Prop} (h : q (.str l)) : (F_L_given [.str l]).run q e := h
theorem tree_not {t : Tr} {l : List Nat} (h : l.head? ≠ some 48 ∧ l.head? ≠ some 49) : eqD (.str l) (treeX t) = false := by
  show decide (l = t.enc) = false
  refine decide_eq_false fun q => ?_
  rw [q] at h
  cases t with
  | l => exact h.1 rfl
  | n a b => exact h.2 rfl
theorem given_tree {t : Tr} {ds : List D} {q : D → Prop} {e : Str → Prop} (h : q (.tup (treeX t :: ds))) : (F_L_given [.tup (treeX t :: ds)]).run q e :=
  given_go (flat_tree t _) (tree_not (by decide)) (tree_not (by decide)) (tree_not (by decide)) h
theorem given_ti {i : Int} {ds : List D} {q : D → Prop} {e : Str → Prop} (h : q (.tup (.int i :: ds))) : (F_L_given [.tup (.int i :: ds)]).run q e := given_go rfl rfl rfl rfl h

section
variable {P : Program} {w : World} {K : PySem.W.Frag} {mg : Str → Option Value} {base : Heap}
theorem ok_L_given (T : Txt K mg w) : Cal P w K mg base CX0 1 "_law_given" ["_law_told_here"] (spF K mg 1 .v F_L_given) := by
  refine T.f_L_given.ok sc_L_given (fun vs H Q E h => spF_len h) (fun f cdv A outer s H vs Q E hr h => ⟨_, (pss_cons (ps_if (PW.pt (pw_or (nCmp oIs (nv 0) pe_non (nomark _)) (pw_or1 (PW.pt (pw_and (nVal (pe_callB (cIsi (K := K)) (by rfl) T.n_isinstance PyProof.Rows.boot_isinstance (pa_cons (nv 0) (pa_cons (nTy T.n_tuple PyProof.Rows.boot_tuple) pa_nil)))) (pw_and1 (nCmp (oInD (K := K) hr) (pe_slice (slU (K := K)) (nv 0) po_none (po_some pe_int)) (pe_tup (pa_cons (pe_tup (pa_cons pe_str pa_nil)) (pa_cons (pe_tup (pa_cons pe_str pa_nil)) (pa_cons (pe_tup (pa_cons pe_str pa_nil)) pa_nil)))) (by rfl)))))))) (pss_one (ps_ret (pe_lst (pa_cons pe_str pa_nil)))) pss_nil)
      (pss_one (ps_ret (nv 0)))),
    sd_def (m := .v) (oN := []) (oB := []) (oC := []) (fun q => nomatch q)
      (sd_seq (o1 := []) (sd_if (pdt_or (pdt_v (pd_op rd_is (PD.s (pd_v (by decide))) (PD.s pd_non))) (pdt_and (pdt_v (pd_cb2 rc_isi (PD.s (pd_v (by decide))) (PD.s pd_ty))) (pdt_v (pd_op rd_ind (pd_sl (PD.s (pd_v (by decide))) pdo_no (pdo_some pd_int)) (pd_tup (pda_cons (pd_tup (pda_cons (pd_str [114, 101, 102, 117, 115, 101, 100] (by rfl)) pda_nil)) (pda_cons (pd_tup (pda_cons (pd_str [108, 97, 114, 103, 101] (by rfl)) pda_nil)) (pda_cons (pd_tup (pda_cons (pd_str [119, 105, 100, 101] (by rfl)) pda_nil)) pda_nil))))))))
      (sd_ret (pd_lst (pda_cons (pd_str [103, 105, 118, 101, 110] (by rfl)) pda_nil)))
      sd_next)
      (sd_ret (pd_v (by decide)))) h⟩)
end
def F_L_told : List D → W D := defF 2
      (fSeq (fTry (fRet (fCalm F_L_given (fCons (fCallS 2 F_programs_parse (fCons (fV 0) fNil)) fNil))) (tblGet [("BadText", (.tup [D.str [114, 101, 102, 117, 115, 101, 100], D.str [116, 101, 120, 116]]))]))
      (fRet (fC (.int (0)))))
theorem told10_ok {l : List Nat} {q : D → Prop} {e : Str → Prop} (hl : l.length ≤ 90000) (hc : ∀ c ∈ l, c < 256) (h1 : ∀ p, l = textP p → isProgD (prgD p) = true → q (prgX p)) (h2 : (∀ p, l = textP p → isProgD (prgD p) = false) → q refusedD) : (F_L_told [.str l]).run q e := by
  unfold F_L_told
  walk_at "d"
  refine parse_ok hl hc (fun p hp hb => ?_) (fun no => ?_)
  · walk_at "w"
    refine given_lst ?_
    exact h1 p hp hb
  · refine wk_try rfl ?_
    walk_at "w"
    exact h2 no

section
variable {P : Program} {w : World} {K : PySem.W.Frag} {mg : Str → Option Value} {base : Heap}
theorem ok_L_told (T : Txt K mg w)
    (c_L_given : Cal P w K mg base CX0 1 "_law_given" ["_law_told_here"] (spF K mg 1 .v F_L_given))
    (c_programs_parse : Cal P w K mg base (L2.CX P w) 4 "parse" ["line"] (spF K mg 1 .v F_programs_parse)) : Cal P w K mg base CX0 5 "_law_told" ["_law_line"] (spF K mg 1 .v F_L_told) := by
  refine T.f_L_told.ok sc_L_told (fun vs H Q E h => spF_len h) (fun f cdv A outer s H vs Q E hr h => ⟨_, (pss_cons (nTryAsD (i := 1) (Wout := fun _ _ _ _ => False) rfl rfl sc_L_told.nd rfl rfl T.x_BadText takes0 (fun W pn xe tk po => (pss_one (ps_ret (nCall c_L_given (hr.mono (by decide)) pass0 (pa_cons (nCallS c_programs_parse (hr.mono (by decide)) (fun σ => passAt tk σ) (pa_cons (nv 0) pa_nil)) pa_nil))))) (fun a oe cls d pn hz hf => (pss_one (ps_if (PW.pt (pw_and (nVal (pe_callB (cIsE (X := (cxOf CX0 P w K mg base ["_law_line", "e"] "_law_told" (defScope s_L_told) f cdv A outer s H E).nox) (K := K) hz hf) (by rfl) T.n_isinstance PyProof.Rows.boot_isinstance (pa_cons (nv 1) (pa_cons (nGlobC T.x_NarcissusError) pa_nil)))) (pw_and1 (nVal (pe_callB (cIsE (X := (cxOf CX0 P w K mg base ["_law_line", "e"] "_law_told" (defScope s_L_told) f cdv A outer s H E).nox) (K := K) hz hf) (by rfl) T.n_isinstance PyProof.Rows.boot_isinstance (pa_cons (nv 1) (pa_cons (nTy (T := "ValueError") T.n_ValueError (by decide +kernel)) pa_nil))))))) (pss_one (ps_ret (pe_tup (pa_cons pe_str (pa_cons pe_str pa_nil))))) pss_nil))))
      (pss_one (ps_ret pe_int))),
    sd_def (m := .v) (oN := []) (oB := []) (oC := []) (fun q => nomatch q)
      (sd_seq (o1 := []) (sd_tryA (n := 2) (h := tblGet [("BadText", (.tup [D.str [114, 101, 102, 117, 115, 101, 100], D.str [116, 101, 120, 116]]))]) (fun _ => (sd_ret (pd_calm (len_cons len_nil) (pda_cons (pd_callS (len_cons len_nil) (pda_cons (pd_v (by decide)) pda_nil)) pda_nil)))) (tbl_nol rfl) (fun c0 gc0 De m d cls σ H g gm hl k => by
        rcases tbl_cons g with ⟨rfl, rfl⟩ | g
        · refine ⟨true, T.e_BadText_BadText _ _ gm gc0, fun _ a ha => ?_, fun q => Bool.noConfusion q⟩
          obtain ⟨s0, s1, rfl⟩ := st2 hl
          obtain ⟨D0, gD, iD⟩ := T.i_BadText
          obtain rfl : cls = .ref D0 := Option.some.inj (gm.symm.trans gD)
          refine fun CN gN => ⟨D0, rfl, rfl, iD, _, .ref CN, true, rfl, fun u hu => hu, T.k_BadText_NarcissusError _ _ gD gN, ?_⟩
          refine iteT (⟨D0, rfl, rfl, iD, _, .type "ValueError", true, rfl, fun u hu => hu, T.t_BadText_ValueError _ gD, ?_⟩)
          refine iteT ?_
          exact PD.use (K := K) (mg := mg) (Eo := fun _ _ _ => False) (m := .v) (fTup (fCons (fC (.str [114, 101, 102, 117, 115, 101, 100])) (fCons (fC (.str [116, 101, 120, 116])) fNil))) NM (List.replicate _ none) mk_no (envl_none _) (pd_tup (pda_cons (pd_str [114, 101, 102, 117, 115, 101, 100] (by rfl)) (pda_cons (pd_str [116, 101, 120, 116] (by rfl)) pda_nil))) ⟨by show 2 ≤ 16777216; decide, k⟩
        exact (tbl_nil g).elim))
      (sd_ret pd_int)) h⟩)
end
def sp_L_drawL (K : PySem.W.Frag) (_ : Str → Option Value) : Sp := fun vs H Q _ => ∃ (p q : Addr) (ns : List Int) (a b c m : Int), vs = [.ref p, .int m] ∧ 0 < m ∧ m < 1000000 ∧ p ≠ q ∧ H q = some (.lst (ns.map V.int)) ∧ H p = some (.lst [.ref q, .int a, .int b, .int c]) ∧ 0 ≤ b ∧
  ∀ (v a' b' c' : Int), 0 ≤ v → v < m → 0 ≤ b' → Q (.int v) (upd H p (.lst [.ref q, .int a', .int b', .int c']))
def sp_L_draw (K : PySem.W.Frag) (_ : Str → Option Value) : Sp := fun vs H Q _ => ∃ (p : Addr) (m : Int), vs = [.ref p, .int m] ∧ 0 < m ∧ m < 1000000 ∧ StrmAt H p ∧ ∀ (v : Int), 0 ≤ v → v < m → StrmAt H p → Q (.int v) H

section
variable {P : Program} {w : World} {K : PySem.W.Frag} {mg : Str → Option Value} {base : Heap}
theorem ok_L_draw (T : Txt K mg w) : Cal P w K mg base CX0 1 "_law_draw" ["_law_stream_here", "_law_many"] (sp_L_draw K mg) := by
  refine Cal.unseal (sp := sp_L_drawL K mg) (T.f_L_draw.ok sc_L_draw (fun vs H Q E h => (by obtain ⟨_, _, _, _, _, _, _, rfl, _⟩ := h; rfl)) (fun f cdv A outer s H vs Q E hr h => ⟨_, (Evl.pss_cut (ps_if (PW.pt (pw_and (nCmp (oEq (K := K) hr.units) (pe_ix (ixU (K := K)) (nv 0) pe_int (fun _ _ => rfl)) pe_int (nomark _)) (pw_and1 (nCmp oLt (pe_ix (ixU (K := K)) (nv 0) pe_int (fun _ _ => rfl)) (pe_callB (cLen (K := K)) (by rfl) T.n_len PySem.boot_len (pa_cons (pe_ix (ixU (K := K)) (nv 0) pe_int (fun _ _ => rfl)) pa_nil)) (nomark _))))) (pss_cons (ps_asg (pe_callB cAbs (by rfl) T.n_abs PyProof.Rows.boot_abs (pa_cons (pe_callTy cInt (by rfl) T.n_int PyProof.Rows.boot_int (pa_cons (pe_ix (ixU (K := K)) (pe_ix (ixU (K := K)) (nv 0) pe_int (fun _ _ => rfl)) (pe_ix (ixU (K := K)) (nv 0) pe_int (fun _ _ => rfl)) (fun _ _ => rfl)) pa_nil)) pa_nil)) (pg_sub (nv 0) pe_int set_list))
      (pss_one (ps_asg (pe_op (oAdd (K := K)) (pe_ix (ixU (K := K)) (nv 0) pe_int (fun _ _ => rfl)) pe_int) (pg_sub (nv 0) pe_int set_list)))) pss_nil)
      (pss_cons (ps_if (nCmp (oEq (K := K) hr.units) (pe_ix (ixU (K := K)) (nv 0) pe_int (fun _ _ => rfl)) pe_int (nomark _)) (pss_cons (ps_asg (pe_op oMod (pe_callTy cInt (by rfl) T.n_int PyProof.Rows.boot_int (pa_cons (pe_op (oAdd (K := K)) (pe_op (oMul (K := K)) (pe_ix (ixU (K := K)) (nv 0) pe_int (fun _ _ => rfl)) pe_int) pe_int) pa_nil)) pe_int) (pg_sub (nv 0) pe_int set_list))
      (pss_one (ps_ret (pe_op oMod (pe_callTy cInt (by rfl) T.n_int PyProof.Rows.boot_int (pa_cons (pe_op oDiv (pe_ix (ixU (K := K)) (nv 0) pe_int (fun _ _ => rfl)) pe_int) pa_nil)) (nv 1))))) pss_nil)
      (pss_cons (ps_set (i := 2) sc_L_draw.nd rfl (.inl rfl) (pe_op oMod (pe_callTy cInt (by rfl) T.n_int PyProof.Rows.boot_int (pa_cons (pe_ix (ixU (K := K)) (nv 0) pe_int (fun _ _ => rfl)) pa_nil)) (nv 1)))
      (pss_cons (ps_asg (pe_op oDiv (pe_ix (ixU (K := K)) (nv 0) pe_int (fun _ _ => rfl)) (nv 1)) (pg_sub (nv 0) pe_int set_list))
      (pss_one (ps_ret (nv 2))))))), ?_⟩)) (fun vs H Q E h => (by obtain ⟨_, _, rfl, _⟩ := h; rfl)) ?_
  · obtain ⟨p, q, ns, a, b, c, m, rfl, hm, hm2, npq, hq, hp, hb, k⟩ := h
    -- behind the refill: the pool and the place are others
    refine ⟨fun σ' H' => σ' = [some (.ref p), some (.int m), none] ∧ ∃ (a' b' : Int), 0 ≤ b' ∧ H' = upd H p (.lst [.ref q, .int a', .int b', .int c]), ?_, ?_⟩
    · refine ⟨_, _, .l hp, rfl, iteI (fun e1 => ?_) (fun e1 => ⟨rfl, a, b, hb, ?_⟩)⟩
      · refine ⟨_, _, .l hp, rfl, _, _, .l hp, rfl, _, .l hq, iteD (fun e2 => ?_) (fun e2 => ⟨rfl, a, b, hb, ?_⟩)⟩
        · obtain ⟨z, hx⟩ := atI_int hb e2
          refine ⟨_, _, .l hp, rfl, _, _, .l hp, rfl, _, _, .l hq, hx, p, _, 1, 1, rfl, rfl, hp, rfl, ?_⟩
          refine ⟨_, _, .l upd_same, rfl, p, _, 2, 2, rfl, rfl, upd_same, rfl, rfl, _, b + 1, by omega, upd_upd⟩
        · exact (upd_self hp).symm
      · exact (upd_self hp).symm
    · rintro σ' H' ⟨rfl, a', b', hb', rfl⟩
      refine ⟨_, _, .l upd_same, rfl, iteI (fun e1 => ?_) (fun e1 => ?_)⟩
      · refine ⟨_, _, .l upd_same, rfl, .inr ⟨by decide, by decide⟩, by decide, p, _, 3, 3, rfl, rfl, upd_same, rfl, ?_⟩
        refine ⟨_, _, .l upd_same, rfl, ⟨by decide, by decide⟩, hm, ?_⟩
        rw [upd_upd]
        exact k _ _ _ _ (Int.emod_nonneg _ (by omega)) (Int.emod_lt_of_pos _ hm) hb'
      · refine ⟨_, _, .l upd_same, rfl, hm, _, _, .l upd_same, rfl, ⟨hm, by omega⟩, p, _, 1, 1, rfl, rfl, upd_same, rfl, ?_⟩
        rw [upd_upd]
        exact k _ _ _ _ (Int.emod_nonneg _ (by omega)) (Int.emod_lt_of_pos _ hm) hb'
  · rintro vs H Q E ⟨p, m, rfl, hm, hm2, st, k⟩
    refine ⟨p, st, fun q ns a b c hp hq hb => ⟨p, q, ns, a, b, c, m, rfl, hm, hm2, ?_, ?_, upd_same, hb, fun v a' b' c' h0 h1 h2 => ⟨k v h0 h1 st, a', b', c', h2, rfl⟩⟩⟩
    · intro e; rw [e, hq] at hp; cases hp
    · rw [upd_ne (fun e => by rw [e, hp] at hq; cases hq)]; exact hq
end
def G_L_draw : List D → W D := fun
  | [.strm, .int m] => dDraw m
  | _ => .stuck
def F_L_draw : List D → W D := fun ds => W.calm (G_L_draw ds)
theorem br_L_draw {P : Program} {w : World} {K : PySem.W.Frag} {mg : Str → Option Value} {base : Heap} {k : Nat} {g : Str} {ps : List Str} (c : Cal P w K mg base CX0 k g ps (sp_L_draw K mg)) : Cal P w K mg base CX0 k g ps (spF K mg 2 .v F_L_draw) :=
  Cal.bridge G_L_draw c fun ds vs H Q hl r run => by
    obtain ⟨x, y, rfl⟩ := twoD hl
    obtain ⟨v, w, rfl, h, h'⟩ := args2 r
    cases x <;> first | (exact False.elim run) | skip
    cases y <;> first | (exact False.elim run) | skip
    rename_i m
    obtain ⟨⟨b1, b2⟩, run⟩ := run
    obtain ⟨p, q, ns, rfl, _, _, h1, h2⟩ := h
    cases h'
    exact ⟨p, m, rfl, b1, b2, ⟨q, ns, h1, h2⟩, fun v v0 v1 _ => run v ⟨v0, v1⟩ _ H (Ex.refl H) rfl⟩
theorem draw_ok {m : Nat} {q : D → Prop} {e : Str → Prop} (h0 : 0 < m) (h1 : m < 1000000) (h : ∀ v : Nat, v < m → q (.int (v : Int))) : (F_L_draw [.strm, .int (m : Int)]).run q e := by
  refine ⟨⟨by omega, by omega⟩, fun v hv => ?_⟩
  obtain ⟨v, rfl⟩ := Int.eq_ofNat_of_zero_le hv.1
  have := hv.2
  exact h v (by omega)
theorem draw_at {m : Int} (n : Nat) {q : D → Prop} {e : Str → Prop} (hm : m = (n : Int)) (h0 : 0 < n) (h1 : n < 1000000) (h : ∀ v : Nat, v < n → q (.int (v : Int))) : (F_L_draw [.strm, .int m]).run q e := by
  subst hm; exact draw_ok h0 h1 h

def F_L_text : List D → W D := defF 4
      (fSeq (fSetF 1 (fLst fNil))
      (fSeq (fFor (fItems (fV 0)) (fgN 2)
      (fApp 1 (fJoin (fC (.str [32])) (fOp dAdd (fLst (fCons (fOp dIx (fV 2) (fC (.int (0)))) fNil)) (fLc (fItems (fSl (fV 2) (fSome (fC (.int (1)))) fNo)) (fgN 3) fYes (fUn dStr (fV 3)) [3])))))
      (fRet (fJoin (fC (.str [59, 32])) (fV 1)))))
theorem ltext_ok {rows : List Row} {q : D → Prop} {e : Str → Prop} (hn : rows.length ≤ 100000) (hr : ∀ r ∈ rows, TxtOk r) (hl : (textP rows).length ≤ 10000000) (h : q (.str (textP rows))) : (F_L_text [prgX rows]).run q e := by
  unfold F_L_text
  walk_at "d"
  refine w_out (forGo_inv (fun i ρ => ∃ x2 x3, ρ = [some (prgX rows), some (.lst ((rows.take i).map fun r => D.str (textR r))), x2, x3]) ⟨none, none, rfl⟩ (fun i d ρ hx hI => ?_) (fun ρ hI => ?_))
  · obtain ⟨x2, x3, rfl⟩ := hI
    obtain ⟨r, hi, rfl⟩ := map_get hx
    have hm := mem_of_get hi
    have ok := hr r hm
    have s1 := ok.1
    have nx : ∀ {x : D}, x = .str (textR r) → ((rows.take i).map fun r => D.str (textR r)).length < 16777216 ∧ (D.lst (((rows.take i).map fun r => D.str (textR r)) ++ [x])) = .lst ((rows.take (i + 1)).map fun r => D.str (textR r)) := fun {x} hx => by
      refine ⟨by rw [List.length_map, List.length_take]; omega, ?_⟩
      rw [hx, List.take_add_one, hi, List.map_append]; rfl
    refine w_in ?_
    cases r with
    | set a t =>
      dsimp only [Row.x, treeX]
      walk_at "w"
      rw [drop1_cut, List.drop_succ_cons, List.drop_zero]
      refine wlenD (by decide) ?_
      walk_at "w"
      refine wd_str (s1 _ (by simp [zOf, ZRow.ints])) ?_
      walk_at "w"
      refine wo_addl (by show 1 + 2 ≤ 16777216; decide) ?_
      refine words_ok (r := .set a t) ok ?_
      obtain ⟨n1, n2⟩ := nx rfl
      refine ⟨n1, ?_⟩
      rw [n2]
      walk_at "w"
      exact ⟨_, _, rfl⟩
    | move a b =>
      dsimp only [Row.x]
      walk_at "w"
      rw [drop1_cut, List.drop_succ_cons, List.drop_zero]
      refine wlenD (by decide) ?_
      walk_at "w"
      refine wd_str (s1 _ (by simp [zOf, ZRow.ints])) ?_
      walk_at "w"
      refine wd_str (s1 _ (by simp [zOf, ZRow.ints])) ?_
      walk_at "w"
      refine wo_addl (by show 1 + 2 ≤ 16777216; decide) ?_
      refine words_ok (r := .move a b) ok ?_
      obtain ⟨n1, n2⟩ := nx rfl
      refine ⟨n1, ?_⟩
      rw [n2]
      walk_at "w"
      exact ⟨_, _, rfl⟩
    | cons a b c =>
      dsimp only [Row.x]
      walk_at "w"
      rw [drop1_cut, List.drop_succ_cons, List.drop_zero]
      refine wlenD (by decide) ?_
      walk_at "w"
      refine wd_str (s1 _ (by simp [zOf, ZRow.ints])) ?_
      walk_at "w"
      refine wd_str (s1 _ (by simp [zOf, ZRow.ints])) ?_
      walk_at "w"
      refine wd_str (s1 _ (by simp [zOf, ZRow.ints])) ?_
      walk_at "w"
      refine wo_addl (by show 1 + 3 ≤ 16777216; decide) ?_
      refine words_ok (r := .cons a b c) ok ?_
      obtain ⟨n1, n2⟩ := nx rfl
      refine ⟨n1, ?_⟩
      rw [n2]
      walk_at "w"
      exact ⟨_, _, rfl⟩
    | head a b =>
      dsimp only [Row.x]
      walk_at "w"
      rw [drop1_cut, List.drop_succ_cons, List.drop_zero]
      refine wlenD (by decide) ?_
      walk_at "w"
      refine wd_str (s1 _ (by simp [zOf, ZRow.ints])) ?_
      walk_at "w"
      refine wd_str (s1 _ (by simp [zOf, ZRow.ints])) ?_
      walk_at "w"
      refine wo_addl (by show 1 + 2 ≤ 16777216; decide) ?_
      refine words_ok (r := .head a b) ok ?_
      obtain ⟨n1, n2⟩ := nx rfl
      refine ⟨n1, ?_⟩
      rw [n2]
      walk_at "w"
      exact ⟨_, _, rfl⟩
    | tail a b =>
      dsimp only [Row.x]
      walk_at "w"
      rw [drop1_cut, List.drop_succ_cons, List.drop_zero]
      refine wlenD (by decide) ?_
      walk_at "w"
      refine wd_str (s1 _ (by simp [zOf, ZRow.ints])) ?_
      walk_at "w"
      refine wd_str (s1 _ (by simp [zOf, ZRow.ints])) ?_
      walk_at "w"
      refine wo_addl (by show 1 + 2 ≤ 16777216; decide) ?_
      refine words_ok (r := .tail a b) ok ?_
      obtain ⟨n1, n2⟩ := nx rfl
      refine ⟨n1, ?_⟩
      rw [n2]
      walk_at "w"
      exact ⟨_, _, rfl⟩
    | jump a b =>
      dsimp only [Row.x]
      walk_at "w"
      rw [drop1_cut, List.drop_succ_cons, List.drop_zero]
      refine wlenD (by decide) ?_
      walk_at "w"
      refine wd_str (s1 _ (by simp [zOf, ZRow.ints])) ?_
      walk_at "w"
      refine wd_str (s1 _ (by simp [zOf, ZRow.ints])) ?_
      walk_at "w"
      refine wo_addl (by show 1 + 2 ≤ 16777216; decide) ?_
      refine words_ok (r := .jump a b) ok ?_
      obtain ⟨n1, n2⟩ := nx rfl
      refine ⟨n1, ?_⟩
      rw [n2]
      walk_at "w"
      exact ⟨_, _, rfl⟩
  · obtain ⟨x2, x3, rfl⟩ := hI
    rw [List.length_map, List.take_length]
    walk_at "w"
    have e1 : rows.map (fun r => D.str (textR r)) = (rows.map textR).map D.str := by rw [List.map_map]; rfl
    rw [e1]
    refine wo_join ?_ h
    have h1 := joinL_len [59, 32] (rows.map textR)
    have h2 : (TL.joinL [59, 32] (rows.map textR)).length ≤ 10000000 := hl
    rw [List.length_map]
    show _ + _ * 2 ≤ _
    omega

section
variable {P : Program} {w : World} {K : PySem.W.Frag} {mg : Str → Option Value} {base : Heap}
theorem ok_L_text (T : Txt K mg w) : Cal P w K mg base CX0 1 "_law_text" ["_law_program_here"] (spF K mg 1 .v F_L_text) := by
  refine T.f_L_text.ok sc_L_text (fun vs H Q E h => spF_len h) (fun f cdv A outer s H vs Q E hr h => ⟨_, (pss_cons (ps_set (i := 1) sc_L_text.nd rfl (.inl rfl) (pe_lst pa_nil))
      (pss_cons (ps_for PassesOwn.never rfl (piAny (K := K) (nv 0)) (pg_name (i := 2) sc_L_text.nd rfl (.inl rfl)) (pss_one (ps_expr (pe_bm PySem.F.plainAttrs_list PySem.F.slot_list_append PySem.F.type_list_append mt_append (nv 1) (pa_cons (pe_join pe_str (pe_op (oAdd (K := K)) (pe_lst (pa_cons (pe_ix (ixU (K := K)) (nv 2) pe_int (fun _ _ => rfl)) pa_nil)) (pe_lc (own := [("_law_part", 3)]) (g := gName 3) (tt := tYes) rfl sc_L_text.nd (piAny (K := K) (pe_slice (slU (K := K)) (nv 2) (po_some pe_int) po_none)) (blkOk_by (own := [("_law_part", 3)]) (N := ["_law_program_here", "_law_rows", "_law_row_here", "_law_part"]) (sc := defScope s_L_text) (by decide +kernel)) (fun _ _ _ _ _ => (pg_name (i := 3) sc_L_text.nd rfl (.inl rfl))) (fun _ _ _ _ _ => pts_nil) (fun _ _ _ _ _ => (pe_callTy cStr (by rfl) T.n_str PyProof.Rows.boot_str (pa_cons (nv 3) pa_nil)))))) pa_nil)))))
      (pss_one (ps_ret (pe_join pe_str (nv 1)))))),
    sd_def (m := .v) (oN := []) (oB := []) (oC := []) (fun q => nomatch q)
      (sd_seq (o1 := [1]) (sd_setf (oN := [1]) (pd_lst pda_nil) (by decide) (by decide) (by decide) (by decide))
      (sd_seq (o1 := [1]) (sd_for (vs := [2]) (pdi_for (pd_v (by decide))) (pgd_n (by decide) (by decide)) (by decide)
      (sd_app (by decide) (pd_join (PD.s (pd_str [32] (by rfl))) (pd_op rd_add (pd_lst (pda_cons (pd_op rd_ix (PD.s (pd_v (by decide))) (PD.s pd_int)) pda_nil)) (pd_lc (vs := [3]) (pdi_any (pd_sl (PD.s (pd_v (by decide))) (pdo_some pd_int) pdo_no)) (pgd_n (by decide) (by decide)) pdt_yes (pd_cb1 rc_str (PD.s (pd_v (by decide)))))))))
      (sd_ret (pd_join (PD.s (pd_str [59, 32] (by rfl))) pd_o)))) h⟩)
end
def F_L_long : List D → W D := defF 7
      (fSeq (fSet 1 (fOp dAdd (fC (.int (100))) (fCalm F_L_draw (fCons (fV 0) (fCons (fC (.int (501))) fNil)))))
      (fSeq (fSetF 2 (fOp dMul (fLst (fCons (fTup (fCons (fC (.str [116, 97, 105, 108])) (fCons (fC (.int (0))) (fCons (fC (.int (0))) fNil)))) fNil)) (fV 1)))
      (fSeq (fFor (fRng1 (fCons (fC (.int (3))) fNil)) (fgN 3)
      (fSeq (fSet 4 (fCalm F_L_draw (fCons (fV 0) (fCons (fV 1) fNil))))
      (fSub 2 (fV 4) (fTup (fCons (fC (.str [106, 117, 109, 112])) (fCons (fCalm F_L_draw (fCons (fV 0) (fCons (fC (.int (20))) fNil))) (fCons (fOp dSub (fCalm F_L_draw (fCons (fV 0) (fCons (fOp dAdd (fV 1) (fC (.int (1)))) fNil))) (fV 4)) fNil)))))))
      (fSeq (fSet 5 (fOp dAdd (fC (.int (1500))) (fCalm F_L_draw (fCons (fV 0) (fCons (fC (.int (1000))) fNil)))))
      (fSeq (fSet 6 (fOp dIx (fLst (fCons (fOp dAdd (fOp dMul (fC (.str [49])) (fV 5)) (fOp dMul (fC (.str [48])) (fOp dAdd (fV 5) (fC (.int (1)))))) (fCons (fOp dAdd (fOp dMul (fC (.str [49, 48])) (fV 5)) (fC (.str [48]))) (fCons (fOp dAdd (fOp dMul (fC (.str [49, 49, 48])) (fV 5)) (fOp dMul (fC (.str [48])) (fOp dAdd (fV 5) (fC (.int (1)))))) fNil)))) (fCalm F_L_draw (fCons (fV 0) (fCons (fC (.int (3))) fNil)))))
      (fSeq (fSub 2 (fCalm F_L_draw (fCons (fV 0) (fCons (fV 1) fNil))) (fTup (fCons (fC (.str [115, 101, 116])) (fCons (fCalm F_L_draw (fCons (fV 0) (fCons (fC (.int (20))) fNil))) (fCons (fV 6) fNil)))))
      (fRet (fV 2))))))))
theorem long_tree {n v : Nat} {qd : D → Prop} {e : Str → Prop} (hn : n ≤ 3000) (hv : v < 3) (h : ∀ t : Tr, t.pairs ≤ 6000 → qd (treeX t)) : (dIx (.lst [.str ((List.replicate n [49]).flatten ++ (List.replicate (n + 1) [48]).flatten), .str ((List.replicate n [49, 48]).flatten ++ [48]), .str ((List.replicate n [49, 49, 48]).flatten ++ (List.replicate (n + 1) [48]).flatten)]) (.int (v : Int))).rn qd e := by
  refine wo_pick hv fun d hd => ?_
  simp only [List.mem_cons, List.not_mem_nil, or_false] at hd
  rcases hd with rfl | rfl | rfl
  · have e1 : (List.replicate n [49]).flatten ++ (List.replicate (n + 1) [48]).flatten = (combL n).enc := by rw [combL_enc, flat_rep, flat_rep]
    rw [e1]
    refine h _ (Nat.le_trans (Nat.le_of_eq (pairs_of (n := n) ?_)) (by omega))
    rw [combL_enc, List.length_append, List.length_replicate, List.length_replicate]; omega
  · have e1 : (List.replicate n [49, 48]).flatten ++ [48] = (numT n).enc := (numT_enc n).symm
    rw [e1]
    exact h _ (by rw [numT_pairs]; omega)
  · have e1 : (List.replicate n [49, 49, 48]).flatten ++ (List.replicate (n + 1) [48]).flatten = (zigL n).enc := by rw [zigL_enc, flat_rep]
    rw [e1]
    refine h _ (Nat.le_trans (Nat.le_of_eq (pairs_of (n := 2 * n) ?_)) (by omega))
    rw [zigL_enc, List.length_append, flat_len, List.length_replicate]
    show n * 3 + (n + 1) = _
    omega
theorem long_ok {q : D → Prop} {e : Str → Prop} (h : ∀ rows : List Row, 100 ≤ rows.length → rows.length ≤ 600 → OkPrg 20 rows → treesLe 6000 rows → tlen rows ≤ 12001 → q (prgX rows)) : (F_L_long [.strm]).run q e := by
  unfold F_L_long
  walk_at "d"
  refine draw_at 501 rfl (by decide) (by decide) fun v hv => ?_
  walk_at "w"
  obtain ⟨N, hN⟩ : ∃ N, N = 100 + v := ⟨_, rfl⟩
  rw [show (100 : Int) + (v : Int) = ((N : Nat) : Int) by omega]
  refine wo_mull (by omega) (by show 1 * N ≤ _; omega) ?_
  rw [flat_rep]
  walk_at "w"
  refine wk_r1 (j := 3) (by decide) ?_
  generalize hR : rangeD 0 3 = R
  refine w_out (forGo_inv (fun _ ρ => ∃ (rows : List Row) (x3 x4 : Option D), ρ = [some .strm, some (.int (N : Int)), some (.lst (rows.map Row.x)), x3, x4, none, none] ∧ rows.length = N ∧ OkPrg 20 rows ∧ treesLe 0 rows ∧ tlen rows = 0) ?_ ?_ ?_)
  · refine ⟨List.replicate N (.tail 0 0), none, none, ?_, List.length_replicate, fun i r hr => ?_, fun r hr t ht => ?_, ?_⟩
    · rw [List.map_replicate]; rfl
    · rw [List.eq_of_mem_replicate (mem_of_get hr)]
      intro x hx
      have hx : x ∈ [0, 0] := hx
      simp at hx; omega
    · rw [List.eq_of_mem_replicate hr] at ht; cases ht
    · unfold tlen
      rw [List.map_replicate]
      show (List.replicate N 0).sum = 0
      rw [List.sum_replicate_nat]; omega
  · rintro i d ρ _ ⟨rows, x3, x4, rfl, hl, ok, tr, tl⟩
    refine w_in ?_
    walk_at "w"
    refine draw_at N rfl (by omega) (by omega) fun a ha => ?_
    walk_at "w"
    refine draw_at 20 rfl (by decide) (by decide) fun b hb => ?_
    walk_at "w"
    refine draw_at (N + 1) (by omega) (by omega) (by omega) fun c hc => ?_
    walk_at "w"
    refine wk_sub (by rw [List.length_map, hl]; exact ha) ?_
    have e1 : (rows.map Row.x).set a (.tup [.str [106, 117, 109, 112], .int (b : Int), .int ((c : Int) - (a : Int))]) = (rows.set a (.jump b ((c : Int) - (a : Int)))).map Row.x := by rw [List.map_set]; rfl
    rw [e1]
    walk_at "w"
    refine ⟨_, _, _, rfl, by rw [List.length_set]; exact hl, okPrg_set ok ⟨hb, by omega, by omega⟩, fun r hr t ht => ?_, ?_⟩
    · rcases List.mem_or_eq_of_mem_set hr with hr | rfl
      · exact tr r hr t ht
      · cases ht
    · have := tlen_set rows a (.jump b ((c : Int) - (a : Int)))
      have e2 : rowLen (.jump b ((c : Int) - (a : Int))) = 0 := rfl
      omega
  · rintro ρ ⟨rows, x3, x4, rfl, hl, ok, tr, tl⟩
    walk_at "w"
    refine draw_at 1000 rfl (by decide) (by decide) fun u hu => ?_
    walk_at "w"
    obtain ⟨n, hn⟩ : ∃ n, n = 1500 + u := ⟨_, rfl⟩
    rw [show (1500 : Int) + (u : Int) = ((n : Nat) : Int) by omega]
    refine wo_muls (by omega) (by show 1 * n ≤ _; omega) ?_
    walk_at "w"
    rw [show ((n : Nat) : Int) + 1 = ((n + 1 : Nat) : Int) by omega]
    refine wo_muls (by omega) (by show 1 * (n + 1) ≤ _; omega) ?_
    refine wo_adds (by rw [flat_len, flat_len]; show n * 1 + (n + 1) * 1 ≤ _; omega) ?_
    walk_at "w"
    refine wo_muls (by omega) (by show 2 * n ≤ _; omega) ?_
    refine wo_adds (by rw [flat_len]; show n * 2 + 1 ≤ _; omega) ?_
    walk_at "w"
    refine wo_muls (by omega) (by show 3 * n ≤ _; omega) ?_
    walk_at "w"
    rw [show ((n : Nat) : Int) + 1 = ((n + 1 : Nat) : Int) by omega]
    refine wo_muls (by omega) (by show 1 * (n + 1) ≤ _; omega) ?_
    refine wo_adds (by rw [flat_len, flat_len]; show n * 3 + (n + 1) * 1 ≤ _; omega) ?_
    walk_at "w"
    refine draw_at 3 rfl (by decide) (by decide) fun p hp => ?_
    refine long_tree (by omega) hp fun t ht => ?_
    walk_at "w"
    refine draw_at 20 rfl (by decide) (by decide) fun b hb => ?_
    walk_at "w"
    refine draw_at N rfl (by omega) (by omega) fun a ha => ?_
    refine wk_sub (by rw [List.length_map, hl]; exact ha) ?_
    have e1 : (rows.map Row.x).set a (.tup [.str [115, 101, 116], .int (b : Int), treeX t]) = (rows.set a (.set b t)).map Row.x := by rw [List.map_set]; rfl
    rw [e1]
    walk_at "w"
    have ht2 := t.enc_len
    refine h _ (by rw [List.length_set]; omega) (by rw [List.length_set]; omega) (okPrg_set ok fun x hx => by have hx : x ∈ [b] := hx; rw [List.mem_singleton.mp hx]; exact hb) (fun r hr t' ht' => ?_) ?_
    · rcases List.mem_or_eq_of_mem_set hr with hr | rfl
      · exact Nat.le_trans (tr r hr t' ht') (by decide)
      · cases ht'; exact ht
    · have := tlen_set rows a (.set b t)
      have e2 : rowLen (.set b t) = t.enc.length := rfl
      omega

section
variable {P : Program} {w : World} {K : PySem.W.Frag} {mg : Str → Option Value} {base : Heap}
theorem ok_L_long (T : Txt K mg w)
    (b_L_draw : Cal P w K mg base CX0 1 "_law_draw" ["_law_stream_here", "_law_many"] (spF K mg 2 .v F_L_draw)) : Cal P w K mg base CX0 2 "_law_long" ["_law_stream_here"] (spF K mg 1 .f F_L_long) := by
  refine T.f_L_long.ok sc_L_long (fun vs H Q E h => spF_len h) (fun f cdv A outer s H vs Q E hr h => ⟨_, (pss_cons (ps_set (i := 1) sc_L_long.nd rfl (.inl rfl) (pe_op (oAdd (K := K)) pe_int (nCall b_L_draw (hr.mono (by decide)) pass0 (pa_cons (nv 0) (pa_cons pe_int pa_nil)))))
      (pss_cons (ps_set (i := 2) sc_L_long.nd rfl (.inl rfl) (pe_op (oMul (K := K)) (pe_lst (pa_cons (pe_tup (pa_cons pe_str (pa_cons pe_int (pa_cons pe_int pa_nil)))) pa_nil)) (nv 1)))
      (pss_cons (ps_for PassesOwn.never rfl (pi_range1 (by rfl) T.n_range (pa_cons pe_int pa_nil)) (pg_name (i := 3) sc_L_long.nd rfl (.inl rfl)) (pss_cons (ps_set (i := 4) sc_L_long.nd rfl (.inl rfl) (nCall b_L_draw (hr.mono (by decide)) pass0 (pa_cons (nv 0) (pa_cons (nv 1) pa_nil))))
      (pss_one (ps_asg (pe_tup (pa_cons pe_str (pa_cons (nCall b_L_draw (hr.mono (by decide)) pass0 (pa_cons (nv 0) (pa_cons pe_int pa_nil))) (pa_cons (pe_op oSub (nCall b_L_draw (hr.mono (by decide)) pass0 (pa_cons (nv 0) (pa_cons (pe_op (oAdd (K := K)) (nv 1) pe_int) pa_nil))) (nv 4)) pa_nil)))) (pg_sub (nv 2) (nv 4) set_list)))))
      (pss_cons (ps_set (i := 5) sc_L_long.nd rfl (.inl rfl) (pe_op (oAdd (K := K)) pe_int (nCall b_L_draw (hr.mono (by decide)) pass0 (pa_cons (nv 0) (pa_cons pe_int pa_nil)))))
      (pss_cons (ps_set (i := 6) sc_L_long.nd rfl (.inl rfl) (pe_ix (ixU (K := K)) (pe_lst (pa_cons (pe_op (oAdd (K := K)) (pe_op (oMul (K := K)) pe_str (nv 5)) (pe_op (oMul (K := K)) pe_str (pe_op (oAdd (K := K)) (nv 5) pe_int))) (pa_cons (pe_op (oAdd (K := K)) (pe_op (oMul (K := K)) pe_str (nv 5)) pe_str) (pa_cons (pe_op (oAdd (K := K)) (pe_op (oMul (K := K)) pe_str (nv 5)) (pe_op (oMul (K := K)) pe_str (pe_op (oAdd (K := K)) (nv 5) pe_int))) pa_nil)))) (nCall b_L_draw (hr.mono (by decide)) pass0 (pa_cons (nv 0) (pa_cons pe_int pa_nil))) (fun _ _ => rfl)))
      (pss_cons (ps_asg (pe_tup (pa_cons pe_str (pa_cons (nCall b_L_draw (hr.mono (by decide)) pass0 (pa_cons (nv 0) (pa_cons pe_int pa_nil))) (pa_cons (nv 6) pa_nil)))) (pg_sub (nv 2) (nCall b_L_draw (hr.mono (by decide)) pass0 (pa_cons (nv 0) (pa_cons (nv 1) pa_nil))) set_list))
      (pss_one (ps_ret (nv 2))))))))),
    sd_def (m := .f) (oN := []) (oB := []) (oC := []) (fun q => nomatch q)
      (sd_seq (o1 := []) (sd_set (oN := []) (pd_op rd_add (PD.s pd_int) (PD.s (pd_calm (len_cons (len_cons len_nil)) (pda_cons (pd_v (by decide)) (pda_cons pd_int pda_nil))))) (by decide) (by decide) (by decide))
      (sd_seq (o1 := [2]) (sd_setf (oN := [2]) (pd_op rd_mul (pd_lst (pda_cons (pd_tup (pda_cons (pd_str [116, 97, 105, 108] (by rfl)) (pda_cons pd_int (pda_cons pd_int pda_nil)))) pda_nil)) (PD.s (pd_v (by decide)))) (by decide) (by decide) (by decide) (by decide))
      (sd_seq (o1 := [2]) (sd_for (vs := [3]) (pdi_r1 (pda_cons pd_int pda_nil)) (pgd_n (by decide) (by decide)) (by decide)
      (sd_seq (o1 := [2]) (sd_set (oN := [2]) (pd_calm (len_cons (len_cons len_nil)) (pda_cons (pd_v (by decide)) (pda_cons (pd_v (by decide)) pda_nil))) (by decide) (by decide) (by decide))
      (sd_sub (by decide) (pd_tup (pda_cons (pd_str [106, 117, 109, 112] (by rfl)) (pda_cons (pd_calm (len_cons (len_cons len_nil)) (pda_cons (pd_v (by decide)) (pda_cons pd_int pda_nil))) (pda_cons (pd_op rd_sub (PD.s (pd_calm (len_cons (len_cons len_nil)) (pda_cons (pd_v (by decide)) (pda_cons (pd_op rd_add (PD.s (pd_v (by decide))) (PD.s pd_int)) pda_nil)))) (PD.s (pd_v (by decide)))) pda_nil)))) (pd_v (by decide)))))
      (sd_seq (o1 := [2]) (sd_set (oN := [2]) (pd_op rd_add (PD.s pd_int) (PD.s (pd_calm (len_cons (len_cons len_nil)) (pda_cons (pd_v (by decide)) (pda_cons pd_int pda_nil))))) (by decide) (by decide) (by decide))
      (sd_seq (o1 := [2]) (sd_set (oN := [2]) (pd_op rd_ix (pd_lst (pda_cons (pd_op rd_add (pd_op rd_mul (PD.s (pd_str [49] (by rfl))) (PD.s (pd_v (by decide)))) (pd_op rd_mul (PD.s (pd_str [48] (by rfl))) (pd_op rd_add (PD.s (pd_v (by decide))) (PD.s pd_int)))) (pda_cons (pd_op rd_add (pd_op rd_mul (PD.s (pd_str [49, 48] (by rfl))) (PD.s (pd_v (by decide)))) (PD.s (pd_str [48] (by rfl)))) (pda_cons (pd_op rd_add (pd_op rd_mul (PD.s (pd_str [49, 49, 48] (by rfl))) (PD.s (pd_v (by decide)))) (pd_op rd_mul (PD.s (pd_str [48] (by rfl))) (pd_op rd_add (PD.s (pd_v (by decide))) (PD.s pd_int)))) pda_nil)))) (PD.s (pd_calm (len_cons (len_cons len_nil)) (pda_cons (pd_v (by decide)) (pda_cons pd_int pda_nil))))) (by decide) (by decide) (by decide))
      (sd_seq (o1 := [2]) (sd_sub (by decide) (pd_tup (pda_cons (pd_str [115, 101, 116] (by rfl)) (pda_cons (pd_calm (len_cons (len_cons len_nil)) (pda_cons (pd_v (by decide)) (pda_cons pd_int pda_nil))) (pda_cons (pd_v (by decide)) pda_nil)))) (pd_calm (len_cons (len_cons len_nil)) (pda_cons (pd_v (by decide)) (pda_cons (pd_v (by decide)) pda_nil))))
      (sd_reto (by decide) (by decide)))))))) h⟩)
end
def sp_L_tree (K : PySem.W.Frag) (_ : Str → Option Value) : Sp := fun vs H Q _ => ∃ (p : Addr) (n : Nat), vs = [.ref p, .int n] ∧ n ≤ 100000 ∧ StrmAt H p ∧ ∀ t : Tr, t.pairs ≤ n → StrmAt H p → Q (.str (S t.enc)) H

section
variable {P : Program} {w : World} {K : PySem.W.Frag} {mg : Str → Option Value} {base : Heap}
theorem ok_L_tree (T : Txt K mg w)
    (c_L_draw : Cal P w K mg base CX0 1 "_law_draw" ["_law_stream_here", "_law_many"] (sp_L_draw K mg)) : Cal P w K mg base CX0 2 "_law_tree" ["_law_stream_here", "_law_pairs"] (sp_L_tree K mg) := by
  refine T.f_L_tree.ok sc_L_tree (fun vs H Q E h => (by obtain ⟨_, _, rfl, _⟩ := h; rfl)) (fun f cdv A outer s H vs Q E hr h => ⟨_, (pss_cons (ps_set (i := 2) sc_L_tree.nd rfl (.inl rfl) pe_str)
      (pss_cons (ps_set (i := 3) sc_L_tree.nd rfl (.inl rfl) pe_int)
      (pss_cons (ps_while PassesOwn.never (nCmp oGt (nv 3) pe_int (nomark _)) (pss_one (ps_if (PW.pt (pw_or (PW.pt (pw_and (nCmp oGt (nv 1) pe_int (nomark _)) (pw_and1 (nCmp oLt (nCall c_L_draw (hr.mono (by decide)) pass0 (pa_cons (nv 0) (pa_cons (pe_op (oAdd (K := K)) (nv 3) pe_int) pa_nil))) (nv 3) (nomark _))))) (pw_or1 (PW.pt (pw_and (nCmp oGt (nv 1) pe_int (nomark _)) (pw_and (nCmp (oEq (K := K) hr.units) (nv 3) pe_int (nomark _)) (pw_and1 (nCmp oGt (nCall c_L_draw (hr.mono (by decide)) pass0 (pa_cons (nv 0) (pa_cons pe_int pa_nil))) pe_int (nomark _))))))))) (pss_cons (ps_set (i := 2) sc_L_tree.nd rfl (.inl rfl) (pe_op (oAdd (K := K)) (nv 2) pe_str))
      (pss_cons (ps_set (i := 3) sc_L_tree.nd rfl (.inl rfl) (pe_op (oAdd (K := K)) (nv 3) pe_int))
      (pss_one (ps_set (i := 1) sc_L_tree.nd rfl (.inl rfl) (pe_op oSub (nv 1) pe_int))))) (pss_cons (ps_set (i := 2) sc_L_tree.nd rfl (.inl rfl) (pe_op (oAdd (K := K)) (nv 2) pe_str))
      (pss_one (ps_set (i := 3) sc_L_tree.nd rfl (.inl rfl) (pe_op oSub (nv 3) pe_int)))))))
      (pss_one (ps_ret (nv 2)))))), ?_⟩)
  obtain ⟨p, n, rfl, hn, st, k⟩ := h
  refine ⟨fun m σ' H' => H' = H ∧ ∃ (s : List Nat) (mi pa : Nat), σ' = [some (.ref p), some (.int pa), some (.str (S s)), some (.int mi)] ∧ scan 1 s = some mi ∧ s.length + mi = 2 * (n - pa) + 1 ∧ pa ≤ n ∧ m = 2 * pa + mi, ⟨2 * n + 1, rfl, [], 1, n, rfl, rfl, by simp, Nat.le_refl _, rfl⟩, ?_⟩
  rintro m σ' H' ⟨rfl, s, mi, pa, rfl, hs, hl, hp, rfl⟩
  refine iteD (fun h0 => ?_) (fun h0 => ?_)
  · refine ⟨fun σ2 H2 => H2 = H' ∧ ∃ (s : List Nat) (mi' pa' : Nat), σ2 = [some (.ref p), some (.int pa'), some (.str (S s)), some (.int mi')] ∧ scan 1 s = some mi' ∧ s.length + mi' = 2 * (n - pa') + 1 ∧ pa' ≤ n ∧ 2 * pa' + mi' < 2 * pa + mi, ?_, ?_⟩
    · rintro σ2 H2 ⟨rfl, s', mi', pa', rfl, h1, h2, h3, h4⟩
      exact ⟨2 * pa' + mi', h4, rfl, s', mi', pa', rfl, h1, h2, h3, rfl⟩
    · obtain ⟨j, rfl⟩ : ∃ j, mi = j + 1 := ⟨mi - 1, by omega⟩
      have hz : sizeLine = 16777216 := sizeLine_eq
      -- a pair
      have yes : 0 < pa → ∃ (s' : List Nat) (mi' pa' : Nat), (([some (V.ref p), some (.int pa), some (.str (S s)), some (.int ((j + 1 : Nat) : Int))].set 2 (some (.str (S s ++ ("1" : Str))))).set 3 (some (.int (((j + 1 : Nat) : Int) + 1)))).set 1 (some (.int ((pa : Int) - 1))) = [some (.ref p), some (.int pa'), some (.str (S s')), some (.int mi')] ∧ scan 1 s' = some mi' ∧ s'.length + mi' = 2 * (n - pa') + 1 ∧ pa' ≤ n ∧ 2 * pa' + mi' < 2 * pa + (j + 1) := by
        intro hpa
        refine ⟨s ++ [49], j + 2, pa - 1, ?_, ?_, ?_, by omega, by omega⟩
        · rw [S_app1, show ((j + 1 : Nat) : Int) + 1 = ((j + 2 : Nat) : Int) by omega, show (pa : Int) - 1 = ((pa - 1 : Nat) : Int) by omega]
          rfl
        · rw [scan_append, hs]; rfl
        · rw [List.length_append]; simp only [List.length_cons, List.length_nil]; omega
      have no : ∃ (s' : List Nat) (mi' pa' : Nat), ([some (V.ref p), some (.int pa), some (.str (S s)), some (.int ((j + 1 : Nat) : Int))].set 2 (some (.str (S s ++ ("0" : Str))))).set 3 (some (.int (((j + 1 : Nat) : Int) - 1))) = [some (.ref p), some (.int pa'), some (.str (S s')), some (.int mi')] ∧ scan 1 s' = some mi' ∧ s'.length + mi' = 2 * (n - pa') + 1 ∧ pa' ≤ n ∧ 2 * pa' + mi' < 2 * pa + (j + 1) := by
        refine ⟨s ++ [48], j, pa, ?_, ?_, ?_, by omega, by omega⟩
        · rw [S_app0, show ((j + 1 : Nat) : Int) - 1 = (j : Int) by omega]
          rfl
        · rw [scan_append, hs]; rfl
        · rw [List.length_append]; simp only [List.length_cons, List.length_nil]; omega
      have len1 : (S s).length + (("1" : Str)).length ≤ sizeLine := by
        show s.length + 1 ≤ sizeLine
        omega
      refine iteD (fun hpa => ?_) (fun hpa => ?_)
      · refine ⟨p, _, rfl, by omega, by omega, st, fun v hv0 hv1 _ => iteD (fun hv => ⟨len1, rfl, yes (by omega)⟩) (fun hv => iteD (fun _ => iteI (fun e1 => ⟨p, _, rfl, by decide, by decide, st, fun v hv0 hv1 _ => iteD (fun hv => ⟨len1, rfl, yes (by omega)⟩) (fun hv => ⟨len1, rfl, no⟩)⟩) (fun e1 => ⟨len1, rfl, no⟩)) (fun hq => absurd hpa hq))⟩
      · exact iteD (fun hq => absurd hq hpa) (fun _ => ⟨len1, rfl, no⟩)
  · have e0 : mi = 0 := by omega
    subst e0
    obtain ⟨t, rfl⟩ := scan_tree hs
    refine k t ?_ st
    have := t.enc_len
    omega
end
def G_L_tree : List D → W D := fun
  | [.strm, .int n] => .chk (0 ≤ n ∧ n ≤ 100000) (.bind (.any fun t : Tr => t.pairs ≤ n.toNat) fun t => .ok (treeX t))
  | _ => .stuck
def F_L_tree : List D → W D := fun ds => W.calm (G_L_tree ds)
theorem br_L_tree {P : Program} {w : World} {K : PySem.W.Frag} {mg : Str → Option Value} {base : Heap} {k : Nat} {g : Str} {ps : List Str} (c : Cal P w K mg base CX0 k g ps (sp_L_tree K mg)) : Cal P w K mg base CX0 k g ps (spF K mg 2 .v F_L_tree) :=
  Cal.bridge G_L_tree c fun ds vs H Q hl r run => by
    obtain ⟨x, y, rfl⟩ := twoD hl
    obtain ⟨v, w, rfl, h, h'⟩ := args2 r
    cases x <;> first | (exact False.elim run) | skip
    cases y <;> first | (exact False.elim run) | skip
    rename_i n
    obtain ⟨⟨b1, b2⟩, run⟩ := run
    obtain ⟨p, q, ns, rfl, _, _, h1, h2⟩ := h
    cases h'
    obtain ⟨m, rfl⟩ := Int.eq_ofNat_of_zero_le b1
    exact ⟨p, m, rfl, by omega, ⟨q, ns, h1, h2⟩, fun t ht _ => run t (by omega) _ H (Ex.refl H) rfl⟩
theorem tree_at {m : Int} (n : Nat) {q : D → Prop} {e : Str → Prop} (hm : m = (n : Int)) (h0 : n ≤ 100000) (h : ∀ t : Tr, t.pairs ≤ n → q (treeX t)) : (F_L_tree [.strm, .int m]).run q e := by
  subst hm
  exact ⟨⟨by omega, by omega⟩, fun t ht => h t (by simpa using ht)⟩

theorem sw6 (v : V) (hv : v ∈ [V.str ("set" : Str), .str ("move" : Str), .str ("cons" : Str), .str ("head" : Str), .str ("tail" : Str), .str ("jump" : Str), .str ("cons" : Str), .str ("tail" : Str)]) :
    v = .str ("set" : Str) ∨ v = .str ("move" : Str) ∨ v = .str ("cons" : Str) ∨ v = .str ("head" : Str) ∨ v = .str ("tail" : Str) ∨ v = .str ("jump" : Str) := by
  simp only [List.mem_cons, List.not_mem_nil, or_false] at hv
  rcases hv with h | h | h | h | h | h | h | h <;> simp [h]
def sp_L_program (K : PySem.W.Frag) (_ : Str → Option Value) : Sp := fun vs H Q _ => ∃ (p : Addr) (most wide : Nat), vs = [.ref p, .int most, .int wide] ∧ most ≤ 1000 ∧ 1 ≤ wide ∧ wide ≤ 1000 ∧ StrmAt H p ∧
  ∀ (a : Addr) (H' : Hp) (xs : List V) (rows : List Row), Ex H H' → H a = none → H' a = some (.lst xs) → PrgL K H' xs rows → rows.length ≤ most → OkPrg wide rows → treesLe 3 rows → StrmAt H' p → Q (.ref a) H'

section
variable {P : Program} {w : World} {K : PySem.W.Frag} {mg : Str → Option Value} {base : Heap}
theorem ok_L_program (T : Txt K mg w)
    (c_L_tree : Cal P w K mg base CX0 2 "_law_tree" ["_law_stream_here", "_law_pairs"] (sp_L_tree K mg))
    (c_L_draw : Cal P w K mg base CX0 1 "_law_draw" ["_law_stream_here", "_law_many"] (sp_L_draw K mg)) : Cal P w K mg base CX0 3 "_law_program" ["_law_stream_here", "_law_most", "_law_wide"] (sp_L_program K mg) := by
  refine T.f_L_program.ok sc_L_program (fun vs H Q E h => (by obtain ⟨_, _, _, rfl, _⟩ := h; rfl)) (fun f cdv A outer s H vs Q E hr h => ⟨_, (pss_cons (ps_set (i := 3) sc_L_program.nd rfl (.inl rfl) (nCall c_L_draw (hr.mono (by decide)) pass0 (pa_cons (nv 0) (pa_cons (pe_op (oAdd (K := K)) (nv 1) pe_int) pa_nil))))
      (pss_cons (ps_set (i := 4) sc_L_program.nd rfl (.inl rfl) (pe_lst pa_nil))
      (pss_cons (ps_for PassesOwn.never rfl (pi_range1 (by rfl) T.n_range (pa_cons (nv 3) pa_nil)) (pg_name (i := 5) sc_L_program.nd rfl (.inl rfl)) (pss_cons (ps_set (i := 6) sc_L_program.nd rfl (.inl rfl) (pe_ix (ixU (K := K)) (pe_lst (pa_cons pe_str (pa_cons pe_str (pa_cons pe_str (pa_cons pe_str (pa_cons pe_str (pa_cons pe_str (pa_cons pe_str (pa_cons pe_str pa_nil))))))))) (nCall c_L_draw (hr.mono (by decide)) pass0 (pa_cons (nv 0) (pa_cons pe_int pa_nil))) (fun _ _ => rfl)))
      (pss_cons (ps_set (i := 7) sc_L_program.nd rfl (.inl rfl) (nCall c_L_draw (hr.mono (by decide)) pass0 (pa_cons (nv 0) (pa_cons (nv 2) pa_nil))))
      (pss_cons (ps_set (i := 8) sc_L_program.nd rfl (.inl rfl) (nCall c_L_draw (hr.mono (by decide)) pass0 (pa_cons (nv 0) (pa_cons (nv 2) pa_nil))))
      (pss_one (ps_if (nCmp (oEq (K := K) hr.units) (nv 6) pe_str (nomark _)) (pss_one (ps_expr (pe_bm PySem.F.plainAttrs_list PySem.F.slot_list_append PySem.F.type_list_append mt_append (nv 4) (pa_cons (pe_tup (pa_cons (nv 6) (pa_cons (nv 7) (pa_cons (nCall c_L_tree (hr.mono (by decide)) pass0 (pa_cons (nv 0) (pa_cons (nCall c_L_draw (hr.mono (by decide)) pass0 (pa_cons (nv 0) (pa_cons pe_int pa_nil))) pa_nil))) pa_nil)))) pa_nil)))) (pss_one (ps_if (nCmp (oEq (K := K) hr.units) (nv 6) pe_str (nomark _)) (pss_one (ps_expr (pe_bm PySem.F.plainAttrs_list PySem.F.slot_list_append PySem.F.type_list_append mt_append (nv 4) (pa_cons (pe_tup (pa_cons (nv 6) (pa_cons (nv 7) (pa_cons (nv 8) (pa_cons (nCall c_L_draw (hr.mono (by decide)) pass0 (pa_cons (nv 0) (pa_cons (nv 2) pa_nil))) pa_nil))))) pa_nil)))) (pss_one (ps_if (nCmp (oEq (K := K) hr.units) (nv 6) pe_str (nomark _)) (pss_one (ps_expr (pe_bm PySem.F.plainAttrs_list PySem.F.slot_list_append PySem.F.type_list_append mt_append (nv 4) (pa_cons (pe_tup (pa_cons (nv 6) (pa_cons (nv 7) (pa_cons (pe_op oSub (nCall c_L_draw (hr.mono (by decide)) pass0 (pa_cons (nv 0) (pa_cons (pe_op (oAdd (K := K)) (nv 3) pe_int) pa_nil))) (nv 5)) pa_nil)))) pa_nil)))) (pss_one (ps_expr (pe_bm PySem.F.plainAttrs_list PySem.F.slot_list_append PySem.F.type_list_append mt_append (nv 4) (pa_cons (pe_tup (pa_cons (nv 6) (pa_cons (nv 7) (pa_cons (nv 8) pa_nil)))) pa_nil))))))))))))))
      (pss_one (ps_ret (nv 4)))))), ?_⟩)
  obtain ⟨p, most, wide, rfl, hm, hw1, hw2, st, k⟩ := h
  have hz : sizeLine = 16777216 := sizeLine_eq
  refine ⟨p, _, rfl, by omega, by omega, st, fun v hv0 hv1 _ => ?_⟩
  obtain ⟨v, rfl⟩ := Int.eq_ofNat_of_zero_le hv0
  refine ⟨by show 0 ≤ sizeLine; decide, fun a na => ?_⟩
  have e0 := Evl.Ex.new (o := .lst []) na
  refine ⟨_, rfl, by omega, by omega, for_range (lo := 0) (n := v) (fun i σ' H' => ∃ (xs : List V) (rows : List Row) (x5 x6 x7 x8 : Option V), σ' = [some (.ref p), some (.int most), some (.int wide), some (.int v), some (.ref a), x5, x6, x7, x8] ∧ Ex H H' ∧ H' a = some (.lst xs) ∧ PrgL K H' xs rows ∧ rows.length = i ∧ (∀ j r, rows[j]? = some r → OkRow wide v j r) ∧ treesLe 3 rows)
    ⟨[], [], none, none, none, none, rfl, e0, upd_same, .nil, rfl, fun j r h => by simp at h, fun r hr => by simp at hr⟩ ?_ ?_⟩
  · rintro i σ' H' hi ⟨xs, rows, x5, x6, x7, x8, rfl, ex, hH, hP, hl, hok, htr⟩
    refine ⟨by show 8 ≤ sizeLine; decide, fun q nq => ?_⟩
    have e1 := Evl.Ex.new (o := .lst [.str ("set" : Str), .str ("move" : Str), .str ("cons" : Str), .str ("head" : Str), .str ("tail" : Str), .str ("jump" : Str), .str ("cons" : Str), .str ("tail" : Str)]) nq
    have hq : (upd H' q (.lst [.str ("set" : Str), .str ("move" : Str), .str ("cons" : Str), .str ("head" : Str), .str ("tail" : Str), .str ("jump" : Str), .str ("cons" : Str), .str ("tail" : Str)])) q = some (.lst [.str ("set" : Str), .str ("move" : Str), .str ("cons" : Str), .str ("head" : Str), .str ("tail" : Str), .str ("jump" : Str), .str ("cons" : Str), .str ("tail" : Str)]) := upd_same
    have ex1 := ex.trans e1
    have hH1 := e1 _ _ hH
    have hP1 := hP.mono e1
    generalize upd H' q (.lst [.str ("set" : Str), .str ("move" : Str), .str ("cons" : Str), .str ("head" : Str), .str ("tail" : Str), .str ("jump" : Str), .str ("cons" : Str), .str ("tail" : Str)]) = H1 at e1 hq ex1 hH1 hP1 ⊢
    have st1 := st.mono ex1
    refine ⟨p, _, rfl, by decide, by decide, st1, fun w hw0 hw1' _ => ?_⟩
    refine mem_ix (P := fun v => v = .str ("set" : Str) ∨ v = .str ("move" : Str) ∨ v = .str ("cons" : Str) ∨ v = .str ("head" : Str) ∨ v = .str ("tail" : Str) ∨ v = .str ("jump" : Str)) (.l hq) hw0 hw1' sw6 (fun w6 hw6 => ?_)
    refine ⟨p, _, rfl, by omega, by omega, st1, fun A hA0 hA1 _ => ?_⟩
    obtain ⟨A, rfl⟩ := Int.eq_ofNat_of_zero_le hA0
    refine ⟨p, _, rfl, by omega, by omega, st1, fun B hB0 hB1 _ => ?_⟩
    obtain ⟨B, rfl⟩ := Int.eq_ofNat_of_zero_le hB0
    have sz : xs.length < sizeLine := by rw [hP.length, hl]; omega
    -- a row more
    have more : ∀ (r : Row) (t : Addr), H1 t = none → OkRow wide v i r → (∀ u, r.tree = some u → u.pairs ≤ 3) → ∃ (xs' : List V) (rows' : List Row),
        upd (upd H1 t (.tup r.vs)) a (.lst (xs ++ [.ref t])) = upd (upd H1 t (.tup r.vs)) a (.lst xs') ∧ Ex H (upd (upd H1 t (.tup r.vs)) a (.lst xs')) ∧ (upd (upd H1 t (.tup r.vs)) a (.lst xs')) a = some (.lst xs') ∧ PrgL K (upd (upd H1 t (.tup r.vs)) a (.lst xs')) xs' rows' ∧ rows'.length = i + 1 ∧ (∀ j r, rows'[j]? = some r → OkRow wide v j r) ∧ treesLe 3 rows' := by
      intro r t nt hr ht
      have nta : t ≠ a := fun e => by rw [e, hH1] at nt; cases nt
      have ext := Evl.Ex.new (o := .tup r.vs) nt
      refine ⟨xs ++ [.ref t], rows ++ [r], rfl, Evl.Ex.mut (ex1.trans ext) na, upd_same, ?_, by rw [List.length_append, hl]; rfl, ?_, ?_⟩
      · have kp : Kp a (upd H1 t (.tup r.vs)) (upd (upd H1 t (.tup r.vs)) a (.lst (xs ++ [.ref t]))) := (Kp.refl _ _).upd
        refine paired_app (kp.prg (ext _ _ hH1) (hP1.mono ext)) (.cons ⟨t, rfl, .of ?_⟩ .nil)
        rw [upd_ne nta, upd_same]
      · intro j s hj
        rw [List.getElem?_append] at hj
        split at hj
        · exact hok j s hj
        · rename_i hge
          rw [hl] at hge hj
          have : j = i := by
            by_cases q : j = i
            · exact q
            · rw [List.getElem?_eq_none (by simp only [List.length_singleton]; omega)] at hj; cases hj
          subst this
          rw [Nat.sub_self] at hj
          cases hj
          exact hr
      · intro s hs u hu
        rcases List.mem_append.mp hs with h | h
        · exact htr s h u hu
        · rw [List.mem_singleton.mp h] at hu
          exact ht u hu
    have two : ∀ x, x ∈ [A, B] → x < wide := fun x hx => by
      simp only [List.mem_cons, List.not_mem_nil, or_false] at hx
      rcases hx with h | h <;> omega
    rcases hw6 with rfl | rfl | rfl | rfl | rfl | rfl
    · refine ⟨.inl ⟨rfl, _, .of hH1⟩, p, _, rfl, by decide, by decide, st1, fun n hn0 hn1 _ => ?_⟩
      obtain ⟨n, rfl⟩ := Int.eq_ofNat_of_zero_le hn0
      refine ⟨p, n, rfl, by omega, st1, fun u hu _ => ⟨by show 3 ≤ sizeLine; decide, fun t nt => ?_⟩⟩
      obtain ⟨xs', rows', h1, h2, h3, h4, h5, h6, h7⟩ := more (.set A u) t nt (fun x hx => two x (by rw [List.mem_singleton.mp hx]; exact List.mem_cons_self)) (fun w hw => by cases hw; omega)
      have nta : a ≠ t := fun e => by rw [← e, hH1] at nt; cases nt
      refine ⟨a, xs, _, rfl, rfl, by rw [upd_ne nta]; exact hH1, sz, xs', rows', _, _, _, _, rfl, ?_⟩
      exact h1 ▸ ⟨h2, h3, h4, h5, h6, h7⟩
    · refine ⟨.inl ⟨rfl, _, .of hH1⟩, by show 3 ≤ sizeLine; decide, fun t nt => ?_⟩
      obtain ⟨xs', rows', h1, h2, h3, h4, h5, h6, h7⟩ := more (.move A B) t nt two (fun w hw => by cases hw)
      have nta : a ≠ t := fun e => by rw [← e, hH1] at nt; cases nt
      refine ⟨a, xs, _, rfl, rfl, by rw [upd_ne nta]; exact hH1, sz, xs', rows', _, _, _, _, rfl, ?_⟩
      exact h1 ▸ ⟨h2, h3, h4, h5, h6, h7⟩
    · refine ⟨.inl ⟨rfl, _, .of hH1⟩, p, _, rfl, by omega, by omega, st1, fun C hC0 hC1 _ => ?_⟩
      obtain ⟨C, rfl⟩ := Int.eq_ofNat_of_zero_le hC0
      refine ⟨by show 4 ≤ sizeLine; decide, fun t nt => ?_⟩
      obtain ⟨xs', rows', h1, h2, h3, h4, h5, h6, h7⟩ := more (.cons A B C) t nt (fun x hx => by
        have hx' : x ∈ [A, B, C] := hx
        simp only [List.mem_cons, List.not_mem_nil, or_false] at hx'
        rcases hx' with h | h | h <;> omega) (fun w hw => by cases hw)
      have nta : a ≠ t := fun e => by rw [← e, hH1] at nt; cases nt
      refine ⟨a, xs, _, rfl, rfl, by rw [upd_ne nta]; exact hH1, sz, xs', rows', _, _, _, _, rfl, ?_⟩
      exact h1 ▸ ⟨h2, h3, h4, h5, h6, h7⟩
    · refine ⟨.inl ⟨rfl, _, .of hH1⟩, by show 3 ≤ sizeLine; decide, fun t nt => ?_⟩
      obtain ⟨xs', rows', h1, h2, h3, h4, h5, h6, h7⟩ := more (.head A B) t nt two (fun w hw => by cases hw)
      have nta : a ≠ t := fun e => by rw [← e, hH1] at nt; cases nt
      refine ⟨a, xs, _, rfl, rfl, by rw [upd_ne nta]; exact hH1, sz, xs', rows', _, _, _, _, rfl, ?_⟩
      exact h1 ▸ ⟨h2, h3, h4, h5, h6, h7⟩
    · refine ⟨.inl ⟨rfl, _, .of hH1⟩, by show 3 ≤ sizeLine; decide, fun t nt => ?_⟩
      obtain ⟨xs', rows', h1, h2, h3, h4, h5, h6, h7⟩ := more (.tail A B) t nt two (fun w hw => by cases hw)
      have nta : a ≠ t := fun e => by rw [← e, hH1] at nt; cases nt
      refine ⟨a, xs, _, rfl, rfl, by rw [upd_ne nta]; exact hH1, sz, xs', rows', _, _, _, _, rfl, ?_⟩
      exact h1 ▸ ⟨h2, h3, h4, h5, h6, h7⟩
    · refine ⟨.inl ⟨rfl, _, .of hH1⟩, p, _, rfl, by omega, by omega, st1, fun C hC0 hC1 _ => ?_⟩
      refine ⟨by show 3 ≤ sizeLine; decide, fun t nt => ?_⟩
      obtain ⟨xs', rows', h1, h2, h3, h4, h5, h6, h7⟩ := more (.jump A (C - (0 + (i : Int)))) t nt ⟨by omega, by omega, by omega⟩ (fun w hw => by cases hw)
      have nta : a ≠ t := fun e => by rw [← e, hH1] at nt; cases nt
      refine ⟨a, xs, _, rfl, rfl, by rw [upd_ne nta]; exact hH1, sz, xs', rows', _, _, _, _, rfl, ?_⟩
      exact h1 ▸ ⟨h2, h3, h4, h5, h6, h7⟩
  · rintro σ' H' ⟨xs, rows, x5, x6, x7, x8, rfl, ex, hH, hP, hl, hok, htr⟩
    exact k a H' xs rows ex na hH hP (by omega) (fun i r h => hl ▸ hok i r h) htr (st.mono ex)
end
def G_L_program : List D → W D := fun
  | [.strm, .int most, .int wide] => .chk (0 ≤ most ∧ most ≤ 1000 ∧ 1 ≤ wide ∧ wide ≤ 1000) (.bind (.any fun rows : List Row => rows.length ≤ most.toNat ∧ OkPrg wide.toNat rows ∧ treesLe 3 rows) fun rows => .ok (prgX rows))
  | _ => .stuck
def F_L_program : List D → W D := fun ds => W.calm (G_L_program ds)
theorem br_L_program {P : Program} {w : World} {K : PySem.W.Frag} {mg : Str → Option Value} {base : Heap} {k : Nat} {g : Str} {ps : List Str} (c : Cal P w K mg base CX0 k g ps (sp_L_program K mg)) : Cal P w K mg base CX0 k g ps (spF K mg 3 .f F_L_program) :=
  Cal.bridgeF G_L_program c fun ds vs H Q hl r run => by
    obtain ⟨x, y, z, rfl⟩ := threeD hl
    obtain ⟨v, w, u, rfl, h, h', h''⟩ := args3 r
    cases x <;> first | (exact False.elim run) | skip
    cases y <;> first | (exact False.elim run) | skip
    cases z <;> first | (exact False.elim run) | skip
    rename_i n u
    obtain ⟨⟨b1, b2, b3, b4⟩, run⟩ := run
    obtain ⟨p, q, ns, rfl, _, _, h1, h2⟩ := h
    cases h'; cases h''
    obtain ⟨m, rfl⟩ := Int.eq_ofNat_of_zero_le b1
    obtain ⟨u, rfl⟩ := Int.eq_ofNat_of_zero_le (by omega : 0 ≤ u)
    refine ⟨p, m, u, rfl, by omega, by omega, by omega, ⟨q, ns, h1, h2⟩, fun a H' xs rows ex nA hA hP hl hok htr _ => ?_⟩
    obtain ⟨es, e, kk⟩ := run rows ⟨by omega, by simpa using hok, htr⟩
    cases e
    exact kk a xs H' ex nA hA (prgs_to hP)
theorem program_at {a b : Int} (most wide : Nat) {q : D → Prop} {e : Str → Prop} (ha : a = (most : Int)) (hb : b = (wide : Int)) (h0 : most ≤ 1000) (h1 : 1 ≤ wide) (h2 : wide ≤ 1000) (h : ∀ rows : List Row, rows.length ≤ most → OkPrg wide rows → treesLe 3 rows → q (prgX rows)) : (F_L_program [.strm, .int a, .int b]).run q e := by
  subst ha hb
  exact ⟨⟨by omega, by omega, by omega, by omega⟩, fun rows hr => h rows (by simpa using hr.1) (by simpa using hr.2.1) hr.2.2⟩

def sp_L_streamL (K : PySem.W.Frag) (_ : Str → Option Value) : Sp := fun vs H Q _ => ∃ (a : Addr) (ns : List Int), vs = [.ref a] ∧ SqL K H a (ns.map V.int) ∧
  ∀ (p q : Addr) (H' : Hp) (c : Int), Ex H H' → H p = none → p ≠ q → H' q = some (.lst (ns.map V.int)) → H' p = some (.lst [.ref q, .int 0, .int 0, .int c]) → Q (.ref p) H'
def sp_L_stream (K : PySem.W.Frag) (_ : Str → Option Value) : Sp := fun vs H Q _ => ∃ (a : Addr) (ns : List Int), vs = [.ref a] ∧ SqL K H a (ns.map V.int) ∧
  ∀ (p : Addr) (H' : Hp), Ex H H' → StrmAt H' p → Q (.ref p) H'

section
variable {P : Program} {w : World} {K : PySem.W.Frag} {mg : Str → Option Value} {base : Heap}
theorem ok_L_stream (T : Txt K mg w) : Cal P w K mg base CX0 1 "_law_stream" ["_law_script"] (sp_L_stream K mg) := by
  refine Cal.seal (sp := sp_L_streamL K mg) (T.f_L_stream.ok sc_L_stream (fun vs H Q E h => (by obtain ⟨_, _, rfl, _⟩ := h; rfl)) (fun f cdv A outer s H vs Q E hr h => ⟨_, (pss_cons (ps_set (i := 1) sc_L_stream.nd rfl (.inl rfl) pe_int)
      (pss_cons (ps_for PassesOwn.never rfl (piAny (K := K) (nv 0)) (pg_name (i := 2) sc_L_stream.nd rfl (.inl rfl)) (pss_one (ps_set (i := 1) sc_L_stream.nd rfl (.inl rfl) (pe_op oMod (pe_callTy cInt (by rfl) T.n_int PyProof.Rows.boot_int (pa_cons (pe_op (oAdd (K := K)) (pe_op (oAdd (K := K)) (pe_op (oMul (K := K)) (nv 1) pe_int) (pe_op oMod (pe_callTy cInt (by rfl) T.n_int PyProof.Rows.boot_int (pa_cons (nv 2) pa_nil)) pe_int)) pe_int) pa_nil)) pe_int))))
      (pss_one (ps_ret (pe_lst (pa_cons (pe_callTy (cList (K := K)) (by rfl) T.n_list PyProof.Rows.boot_list (pa_cons (nv 0) pa_nil)) (pa_cons pe_int (pa_cons pe_int (pa_cons (nv 1) pa_nil))))))))), ?_⟩)) ?_
  · obtain ⟨a, ns, rfl, hS, k⟩ := h
    refine .inl ⟨⟨_, hS⟩, for_list (K := K) (a := a) (xs := ns.map V.int) (fun i σ H' => H' = H ∧ ∃ (c : Int) (v : Option V), σ = [some (.ref a), some (.int c), v]) ⟨rfl, 17, none, rfl⟩ (fun i σ H' _ e => by rw [e.1]; exact hS) ?_ ?_⟩
    · rintro i x σ H' hi ⟨rfl, c, v, rfl⟩
      obtain ⟨z, rfl⟩ : ∃ z, x = V.int z := by
        rw [List.getElem?_map] at hi
        cases e : ns[i]? with
        | none => rw [e] at hi; cases hi
        | some u => rw [e] at hi; exact ⟨u, (Option.some.inj hi).symm⟩
      refine ⟨.inr ⟨by decide, by decide⟩, by decide, by decide, rfl, _, _, rfl⟩
    · rintro σ H' ⟨rfl, c, v, rfl⟩
      refine ⟨_, .inl hS, fun q nq => ⟨by show 4 ≤ sizeLine; decide, fun p np => ?_⟩⟩
      have npq : p ≠ q := fun e => by rw [e, upd_same] at np; cases np
      have np' : H' p = none := by rw [upd_ne npq] at np; exact np
      exact k p q _ c ((Evl.Ex.new nq).trans (Evl.Ex.new np)) np' npq (by rw [upd_ne npq.symm, upd_same]) upd_same
  · rintro vs H Q E ⟨a, ns, rfl, hS, k⟩
    refine ⟨a, ns, rfl, hS, fun p q H' c e np npq hq hp => ⟨p, q, 0, 0, c, hp, by decide, k p _ (e.mut np) ⟨q, ns, upd_same, by rw [upd_ne npq.symm]; exact hq⟩⟩⟩
end
def G_L_stream : List D → W D := fun
  | [.scr] => .ok .strm
  | _ => .stuck
def F_L_stream : List D → W D := fun ds => W.calm (G_L_stream ds)
theorem br_L_stream {P : Program} {w : World} {K : PySem.W.Frag} {mg : Str → Option Value} {base : Heap} {k : Nat} {g : Str} {ps : List Str} (c : Cal P w K mg base CX0 k g ps (sp_L_stream K mg)) : Cal P w K mg base CX0 k g ps (spF K mg 1 .v F_L_stream) :=
  Cal.bridge G_L_stream c fun ds vs H Q hl r run => by
    obtain ⟨x, rfl⟩ := oneD hl
    obtain ⟨v, rfl, h⟩ := args1 r
    cases x <;> first | (exact False.elim run) | skip
    obtain ⟨a, ns, rfl, h1, h2⟩ := h
    refine ⟨a, ns, rfl, ?_, fun p H' ex ⟨q, ms, h3, h4⟩ => run _ H' ex ⟨p, q, ms, rfl, fun z => z, fun z => z, h3, h4⟩⟩
    rcases h1 with h1 | h1
    · exact .inl h1.2
    · exact .inr h1
theorem stream_ok {q : D → Prop} {e : Str → Prop} (h : q .strm) : (F_L_stream [.scr]).run q e := h

def F_L_law_l1 : Env → W Out :=
      (fSeq (fSet 10 (fCalm F_L_draw (fCons (fV 1) (fCons (fOp dAdd (fUn dLen (fV 7)) (fC (.int (1)))) fNil))))
      (fSeq (fSet 11 (fOp dIx (fLst (fCons (fC (.str [])) (fCons (fC (.str [48])) (fCons (fC (.str [49])) (fCons (fC (.str [50])) (fCons (fC (.str [45])) (fCons (fC (.str [32])) (fCons (fC (.str [59])) (fCons (fC (.str [59, 32])) (fCons (fC (.str [115, 101, 116])) (fCons (fC (.str [106, 117, 109, 112, 32, 48, 32, 48, 59, 32])) (fCons (fC (.str [45, 48])) (fCons (fC (.str [48, 48])) (fCons (fC (.str [116])) (fCons (fC (.str [10])) (fCons (fC (.str [99, 111, 110, 115, 32, 49, 32, 50, 32, 51])) fNil)))))))))))))))) (fCalm F_L_draw (fCons (fV 1) (fCons (fC (.int (15))) fNil)))))
      (fSeq (fIfS (fT (fOp dEq (fCalm F_L_draw (fCons (fV 1) (fCons (fC (.int (3))) fNil))) (fC (.int (0)))))
      (fSet 11 (fOp dIx (fC (.str [32, 33, 34, 35, 36, 38, 39, 40, 41, 42, 43, 44, 45, 46, 47, 48, 49, 50, 51, 52, 53, 54, 55, 56, 57, 58, 59, 60, 61, 62, 63, 64, 65, 66, 67, 68, 69, 70, 71, 72, 73, 74, 75, 76, 77, 78, 79, 80, 81, 82, 83, 84, 85, 86, 87, 88, 89, 90, 91, 92, 93, 94, 95, 96, 97, 98, 99, 100, 101, 102, 103, 104, 105, 106, 107, 108, 109, 110, 111, 112, 113, 114, 115, 116, 117, 118, 119, 120, 121, 122, 123, 124, 125, 126])) (fCalm F_L_draw (fCons (fV 1) (fCons (fC (.int (94))) fNil)))))
      fNext)
      (fSet 7 (fOp dAdd (fOp dAdd (fSl (fV 7) fNo (fSome (fV 10))) (fV 11)) (fSl (fV 7) (fSome (fOp dAdd (fV 10) (fCalm F_L_draw (fCons (fV 1) (fCons (fC (.int (2))) fNil))))) fNo))))))
def F_L_law_s8 : Env → W Out :=
      (fSeq (fFor (fRng1 (fCons (fC (.int (3))) fNil)) (fgN 8)
      (fSeq (fSet 7 (fV 3))
      (fSeq (fFor (fRng1 (fCons (fOp dAdd (fC (.int (1))) (fCalm F_L_draw (fCons (fV 1) (fCons (fC (.int (2))) fNil)))) fNil)) (fgN 9)
      F_L_law_l1)
      (fIfS (fT (fOp dNe (fCalm F_L_told (fCons (fV 7) fNil)) (fCalm F_L_due (fCons (fV 7) fNil))))
      (fRet (fC (.bl false)))
      fNext))))
      (fRet (fAndV (fOp dEq (fCalm F_programs_text (fCons (fLst fNil) fNil)) (fC (.str []))) (fOp dEq (fCalm F_programs_parse (fCons (fC (.str [])) fNil)) (fLst fNil)))))
def F_L_law_s3 : Env → W Out :=
      (fSeq (fSet 3 (fCalm F_L_text (fCons (fV 2) fNil)))
      (fSeq (fSet 4 (fUn dToList (fV 2)))
      (fSeq (fSet 5 (fCalm F_L_told (fCons (fV 3) fNil)))
      (fSeq (fIfS (fOr (fT (fOp dNe (fCalm F_programs_text (fCons (fV 4) fNil)) (fV 3))) (fOr (fT (fOp dNe (fV 4) (fV 2))) (fOr (fT (fOp dNe (fV 5) (fV 2))) (fT (fOp dIsNot (fCalm F_programs_is_program (fCons (fV 5) fNil)) (fC (.bl true)))))))
      (fRet (fC (.bl false)))
      fNext)
      (fSeq (fIfS (fT (fOp (dCI fun i j => decide (j < i)) (fUn dLen (fV 2)) (fC (.int (40)))))
      (fSeq (fSet 6 (fOp dAdd (fC (.int (590))) (fCalm F_L_draw (fCons (fV 1) (fCons (fC (.int (16))) fNil)))))
      (fSeq (fSet 7 (fJoin (fC (.str [59, 32])) (fOp dMul (fLst (fCons (fC (.str [116, 97, 105, 108, 32, 48, 32, 48])) fNil)) (fV 6))))
      (fRet (fOp dEq (fCalm F_L_told (fCons (fV 7) fNil)) (fCalm F_L_due (fCons (fV 7) fNil))))))
      fNext)
      F_L_law_s8)))))
def F_L_law_s2 : Env → W Out :=
      (fSeq (fIfS (fT (fOp dEq (fCalm F_L_draw (fCons (fV 1) (fCons (fC (.int (16))) fNil))) (fC (.int (0)))))
      (fSet 2 (fList (fCalm F_L_long (fCons (fV 1) fNil))))
      fNext)
      F_L_law_s3)
def F_L_law : List D → W D := defF 12
      (fSeq (fSet 1 (fCalm F_L_stream (fCons (fV 0) fNil)))
      (fSeq (fSet 2 (fList (fCalm F_L_program (fCons (fV 1) (fCons (fC (.int (8))) (fCons (fC (.int (20))) fNil))))))
      F_L_law_s2))
structure G10 (rows : List Row) : Prop where
  ok : OkPrg 20 rows
  len : rows.length ≤ 600
  tl : tlen rows ≤ 13000
theorem G10.txt {rows : List Row} (g : G10 rows) : ∀ r ∈ rows, TxtOk r := fun r hr => by
  obtain ⟨i, hi⟩ := List.mem_iff_getElem?.mp hr
  have hlt := (List.getElem?_eq_some_iff.mp hi).1
  have := rowLen_le hr
  have := g.tl
  have := g.len
  exact ⟨rng_small (n := rows.length) (by decide) (by omega) (by omega) (row_rng (g.ok i r hi)), by omega⟩
theorem G10.prog {rows : List Row} (g : G10 rows) : isProgD (prgD rows) = true := Prg.is ⟨g.ok, g.len, by have := g.tl; omega⟩
theorem rowtxt_len {r : Row} (h : (zOf r).small 1000000) : (textR r).length ≤ 29 + rowLen r := by
  have il : ∀ {n : Int}, n.natAbs < 1000000 → (intL n).length ≤ 7 := fun {n} h => intL_len (i := n) (k := 6) (by decide) (by have e : (10 : Nat) ^ 6 = 1000000 := (by decide); omega)
  have hj := joinL_le [32] (zOf r).ws
  refine Nat.le_trans hj ?_
  have h1 := h
  cases r with
  | set a t =>
    have := il (h1 (a : Int) (by simp [zOf, ZRow.ints]))
    simp [zOf, ZRow.ws, wSet, rowLen, Row.tree]; omega
  | move a b =>
    have := il (h1 (a : Int) (by simp [zOf, ZRow.ints]))
    have := il (h1 (b : Int) (by simp [zOf, ZRow.ints]))
    simp [zOf, ZRow.ws, wMove]; omega
  | cons a b c =>
    have := il (h1 (a : Int) (by simp [zOf, ZRow.ints]))
    have := il (h1 (b : Int) (by simp [zOf, ZRow.ints]))
    have := il (h1 (c : Int) (by simp [zOf, ZRow.ints]))
    simp [zOf, ZRow.ws, wCons]; omega
  | head a b =>
    have := il (h1 (a : Int) (by simp [zOf, ZRow.ints]))
    have := il (h1 (b : Int) (by simp [zOf, ZRow.ints]))
    simp [zOf, ZRow.ws, wHead]; omega
  | tail a b =>
    have := il (h1 (a : Int) (by simp [zOf, ZRow.ints]))
    have := il (h1 (b : Int) (by simp [zOf, ZRow.ints]))
    simp [zOf, ZRow.ws, wTail]; omega
  | jump a b =>
    have := il (h1 (a : Int) (by simp [zOf, ZRow.ints]))
    have := il (h1 b (by simp [zOf, ZRow.ints]))
    simp [zOf, ZRow.ws, wJump]; omega
theorem textP_len : ∀ {rows : List Row}, (∀ r ∈ rows, (zOf r).small 1000000) → (textP rows).length ≤ 31 * rows.length + tlen rows := fun {rows} h => by
  have hj := joinL_le [59, 32] (rows.map textR)
  refine Nat.le_trans hj ?_
  rw [List.length_map, List.map_map]
  have key : ∀ l : List Row, (∀ r ∈ l, (zOf r).small 1000000) → (l.map (List.length ∘ textR)).sum ≤ 29 * l.length + tlen l := by
    intro l
    induction l with
    | nil => intro _; exact Nat.zero_le _
    | cons r l ih =>
      intro h
      have h1 := ih fun s hs => h s (List.mem_cons_of_mem _ hs)
      have h2 := rowtxt_len (h r List.mem_cons_self)
      have e : tlen (r :: l) = rowLen r + tlen l := by unfold tlen; rw [List.map_cons, List.sum_cons]
      rw [List.map_cons, List.sum_cons, e, List.length_cons]
      show (textR r).length + _ ≤ _
      omega
  have h1 := key rows h
  show ((rows.map (List.length ∘ textR)).sum) + rows.length * 2 ≤ _
  omega
theorem G10.tlen {rows : List Row} (g : G10 rows) : (textP rows).length ≤ 40000 := by
  have := textP_len fun r hr => (g.txt r hr).1
  have := g.len
  have := g.tl
  omega
theorem joinL_signs {P : Nat → Prop} {S : List Nat} (hS : ∀ c ∈ S, P c) : ∀ {ls : List (List Nat)}, (∀ w ∈ ls, ∀ c ∈ w, P c) → ∀ c ∈ TL.joinL S ls, P c
  | [], _ => fun c h => by simp [TL.joinL] at h
  | [a], h => h a (by simp)
  | a :: b :: r, h => fun c hc => by
    have ih := joinL_signs hS (ls := b :: r) fun w hw => h w (List.mem_cons_of_mem _ hw)
    have hc : c ∈ a ++ (S ++ TL.joinL S (b :: r)) := hc
    rcases List.mem_append.mp hc with q | q
    · exact h a List.mem_cons_self c q
    · rcases List.mem_append.mp q with q | q
      · exact hS c q
      · exact ih c q
theorem textP_signs (rows : List Row) : ∀ c ∈ textP rows, c < 256 := by
  refine joinL_signs (P := fun c => c < 256) (by decide) fun w hw => ?_
  obtain ⟨r, _, rfl⟩ := List.mem_map.mp hw
  refine joinL_signs (P := fun c => c < 256) (by decide) fun w hw c hc => ?_
  have il : ∀ {n : Int}, c ∈ intL n → c < 256 := fun {n} h => by have := intL_signs h; omega
  have wl : ∀ {l : List Nat}, (∀ c ∈ l, c < 256) → c ∈ l → c < 256 := fun {l} h hc => h c hc
  cases r with
  | set a t =>
    simp only [zOf, ZRow.ws, List.mem_cons, List.not_mem_nil, or_false] at hw
    rcases hw with rfl | rfl | rfl
    · exact wl (by decide) hc
    · exact il hc
    · have := scan_signs (scan_enc1 t) c hc; omega
  | move a b =>
    simp only [zOf, ZRow.ws, List.mem_cons, List.not_mem_nil, or_false] at hw
    rcases hw with rfl | rfl | rfl
    · exact wl (by decide) hc
    · exact il hc
    · exact il hc
  | cons a b c' =>
    simp only [zOf, ZRow.ws, List.mem_cons, List.not_mem_nil, or_false] at hw
    rcases hw with rfl | rfl | rfl | rfl
    · exact wl (by decide) hc
    · exact il hc
    · exact il hc
    · exact il hc
  | head a b =>
    simp only [zOf, ZRow.ws, List.mem_cons, List.not_mem_nil, or_false] at hw
    rcases hw with rfl | rfl | rfl
    · exact wl (by decide) hc
    · exact il hc
    · exact il hc
  | tail a b =>
    simp only [zOf, ZRow.ws, List.mem_cons, List.not_mem_nil, or_false] at hw
    rcases hw with rfl | rfl | rfl
    · exact wl (by decide) hc
    · exact il hc
    · exact il hc
  | jump a b =>
    simp only [zOf, ZRow.ws, List.mem_cons, List.not_mem_nil, or_false] at hw
    rcases hw with rfl | rfl | rfl
    · exact wl (by decide) hc
    · exact il hc
    · exact il hc
/-- what parse answers, and what is due -/
theorem told_due {l : List Nat} {k : Bool → Prop} {e : Str → Prop} (hl : l.length ≤ 90000) (hc : ∀ c ∈ l, c < 256) (h : k true) : (F_L_told [.str l]).run (fun x => (F_L_due [.str l]).run (fun y => (dEqv x y).run k e) e) e := by
  have fr : (refusedD).flat 64 = true := by decide +kernel
  refine told10_ok hl hc (fun p hp hb => ?_) (fun no => ?_)
  · refine due10_ok hl hc (fun p' hp' hb' => ?_) (fun no' => ?_)
    · have : p = p' := textP_inj (hp.symm.trans hp')
      subst this
      refine wq_prg ?_
      rw [decide_eq_true rfl]; exact h
    · rw [no' p hp] at hb; cases hb
  · refine due10_ok hl hc (fun p' hp' hb' => ?_) (fun no' => ?_)
    · rw [no p' hp'] at hb'; cases hb'
    · exact dEqv_ok (.inl ⟨fr, fr⟩) (by rw [eqD_refl _ 64 fr]; exact h)
theorem cut_sub {l : List Nat} {lo hi : Option Int} : (cutL l lo hi).length ≤ l.length ∧ ∀ c ∈ cutL l lo hi, c ∈ l := by
  unfold cutL
  refine ⟨?_, fun c hc => List.mem_of_mem_drop (List.mem_of_mem_take hc)⟩
  rw [List.length_take, List.length_drop]; omega
theorem cut_two {l : List Nat} {a d : Nat} : (cutL l none (some (a : Int))).length + (cutL l (some ((a : Int) + (d : Int))) none).length ≤ l.length := by
  have h1 : (cutL l none (some (a : Int))).length ≤ min a l.length := by
    unfold cutL
    have : HT.sIx l.length l.length (some (a : Int)) = min a l.length := by unfold HT.sIx; dsimp only; rw [if_neg (by omega)]; omega
    rw [HT.sIx_none, this, List.drop_zero, List.length_take]; omega
  have h2 : (cutL l (some ((a : Int) + (d : Int))) none).length ≤ l.length - min a l.length := by
    unfold cutL
    have : HT.sIx l.length 0 (some ((a : Int) + (d : Int))) = min (a + d) l.length := by
      unfold HT.sIx; dsimp only; rw [if_neg (by omega)]; omega
    rw [HT.sIx_none, this, List.length_take, List.length_drop]; omega
  omega
def Sig (x : D) : Prop := ∃ s : List Nat, x = .str s ∧ s.length ≤ 11 ∧ ∀ c ∈ s, c < 256
theorem mut_ok {x0 x2 x3 x4 x5 x6 x8 x9 x10 x11 : Option D} {l : List Nat} {q : Out → Prop} {e : Str → Prop} (hl : l.length ≤ 80000) (hc : ∀ c ∈ l, c < 256)
    (h : ∀ (l' : List Nat) (x10 x11 : Option D), l'.length ≤ l.length + 11 → (∀ c ∈ l', c < 256) → q (.nx [x0, some .strm, x2, x3, x4, x5, x6, some (.str l'), x8, x9, x10, x11])) : (F_L_law_l1 [x0, some .strm, x2, x3, x4, x5, x6, some (.str l), x8, x9, x10, x11]).rn q e := by
  have fin : ∀ (a : Nat) (x : D), Sig x → (fSet 7 (fOp dAdd (fOp dAdd (fSl (fV 7) fNo (fSome (fV 10))) (fV 11)) (fSl (fV 7) (fSome (fOp dAdd (fV 10) (fCalm F_L_draw (fCons (fV 1) (fCons (fC (.int (2))) fNil))))) fNo)) [x0, some .strm, x2, x3, x4, x5, x6, some (.str l), x8, x9, some (.int (a : Int)), some x]).rn q e := by
    rintro a x ⟨s, rfl, hs, hsc⟩
    have cs := fun {lo hi : Option Int} => cut_sub (l := l) (lo := lo) (hi := hi)
    walk_at "w"
    refine wo_sls (by omega) ?_
    walk_at "w"
    refine wo_adds (by have := (cs (lo := none) (hi := some (a : Int))).1; omega) ?_
    walk_at "w"
    refine draw_at 2 rfl (by decide) (by decide) fun d hd => ?_
    walk_at "w"
    refine wo_sls (by omega) ?_
    have c2 := cut_two (l := l) (a := a) (d := d)
    have ml : (cutL l none (some (a : Int)) ++ s ++ cutL l (some ((a : Int) + (d : Int))) none).length ≤ l.length + 11 := by
      rw [List.length_append, List.length_append]; omega
    refine wo_adds (by rw [List.length_append]; omega) ?_
    walk_at "w"
    refine h _ _ _ ml fun c hc' => ?_
    rcases List.mem_append.mp hc' with q1 | q1
    · rcases List.mem_append.mp q1 with q1 | q1
      · exact hc c ((cs (lo := none) (hi := some (a : Int))).2 c q1)
      · exact hsc c q1
    · exact hc c ((cs (lo := some ((a : Int) + (d : Int))) (hi := none)).2 c q1)
  unfold F_L_law_l1
  walk_at "w"
  refine wo_lens (by omega) ?_
  walk_at "w"
  refine draw_at (l.length + 1) (by omega) (by omega) (by omega) fun a ha => ?_
  walk_at "w"
  refine draw_at 15 rfl (by decide) (by decide) fun b hb => ?_
  refine wo_pick (by show b < 15; exact hb) fun d hd => ?_
  have sd : Sig d := by
    simp only [List.mem_cons, List.not_mem_nil, or_false] at hd
    rcases hd with rfl | rfl | rfl | rfl | rfl | rfl | rfl | rfl | rfl | rfl | rfl | rfl | rfl | rfl | rfl <;> exact ⟨_, rfl, by decide, by decide⟩
  walk_at "w"
  refine draw_at 3 rfl (by decide) (by decide) fun u hu => ?_
  walk_at "w"
  refine wk_dec (fun _ => ?_) (fun _ => ?_)
  · walk_at "w"
    refine draw_at 94 rfl (by decide) (by decide) fun v hv => ?_
    have kb : ∀ c ∈ ([32, 33, 34, 35, 36, 38, 39, 40, 41, 42, 43, 44, 45, 46, 47, 48, 49, 50, 51, 52, 53, 54, 55, 56, 57, 58, 59, 60, 61, 62, 63, 64, 65, 66, 67, 68, 69, 70, 71, 72, 73, 74, 75, 76, 77, 78, 79, 80, 81, 82, 83, 84, 85, 86, 87, 88, 89, 90, 91, 92, 93, 94, 95, 96, 97, 98, 99, 100, 101, 102, 103, 104, 105, 106, 107, 108, 109, 110, 111, 112, 113, 114, 115, 116, 117, 118, 119, 120, 121, 122, 123, 124, 125, 126] : List Nat), c < 256 := by decide
    have kl : ([32, 33, 34, 35, 36, 38, 39, 40, 41, 42, 43, 44, 45, 46, 47, 48, 49, 50, 51, 52, 53, 54, 55, 56, 57, 58, 59, 60, 61, 62, 63, 64, 65, 66, 67, 68, 69, 70, 71, 72, 73, 74, 75, 76, 77, 78, 79, 80, 81, 82, 83, 84, 85, 86, 87, 88, 89, 90, 91, 92, 93, 94, 95, 96, 97, 98, 99, 100, 101, 102, 103, 104, 105, 106, 107, 108, 109, 110, 111, 112, 113, 114, 115, 116, 117, 118, 119, 120, 121, 122, 123, 124, 125, 126] : List Nat).length = 94 := by decide
    generalize ([32, 33, 34, 35, 36, 38, 39, 40, 41, 42, 43, 44, 45, 46, 47, 48, 49, 50, 51, 52, 53, 54, 55, 56, 57, 58, 59, 60, 61, 62, 63, 64, 65, 66, 67, 68, 69, 70, 71, 72, 73, 74, 75, 76, 77, 78, 79, 80, 81, 82, 83, 84, 85, 86, 87, 88, 89, 90, 91, 92, 93, 94, 95, 96, 97, 98, 99, 100, 101, 102, 103, 104, 105, 106, 107, 108, 109, 110, 111, 112, 113, 114, 115, 116, 117, 118, 119, 120, 121, 122, 123, 124, 125, 126] : List Nat) = kbs at kb kl ⊢
    have hg : kbs[v]? = some kbs[v] := List.getElem?_eq_getElem (by omega)
    refine wo_ixs (by omega) (atI_nat hg) ?_
    walk_at "w"
    exact fin a _ ⟨_, rfl, by show 1 ≤ 11; decide, fun c hc => by rw [List.mem_singleton.mp hc]; exact kb _ (mem_of_get hg)⟩
  · walk_at "w"
    exact fin a _ sd
theorem law_tail {rows : List Row} (g : G10 rows) {x4 x5 x6 x7 x8 x9 x10 x11 : Option D} : (F_L_law_s8 [some .scr, some .strm, some (prgX rows), some (.str (textP rows)), x4, x5, x6, x7, x8, x9, x10, x11]).rn (Kdef fun d => d = .bl true) (fun _ => False) := by
  have gt := g.tlen
  have gs := textP_signs rows
  unfold F_L_law_s8
  walk_at "w"
  refine wk_r1 (j := 3) (by decide) ?_
  generalize hR : rangeD 0 3 = R
  refine w_out (forGo_inv (fun _ ρ => ∃ x4 x5 x6 x7 x8 x9 x10 x11 : Option D, ρ = [some .scr, some .strm, some (prgX rows), some (.str (textP rows)), x4, x5, x6, x7, x8, x9, x10, x11]) ⟨_, _, _, _, _, _, _, _, rfl⟩ (fun i d ρ hx hI => ?_) (fun ρ hI => ?_))
  · obtain ⟨x4, x5, x6, x7, x8, x9, x10, x11, rfl⟩ := hI
    refine w_in ?_
    walk_at "w"
    refine draw_at 2 rfl (by decide) (by decide) fun v hv => ?_
    walk_at "w"
    rw [show (1 : Int) + (v : Int) = ((1 + v : Nat) : Int) by omega]
    refine wk_r1 (j := 1 + v) (by omega) ?_
    have hrl : (rangeD 0 (1 + v)).length = 1 + v := by unfold rangeD; rw [List.length_map, List.length_range]
    generalize rangeD 0 (1 + v) = R2 at hrl ⊢
    refine w_out (forGo_inv (fun k ρ => ∃ (l : List Nat) (x9 x10 x11 : Option D), ρ = [some .scr, some .strm, some (prgX rows), some (.str (textP rows)), x4, x5, x6, some (.str l), some d, x9, x10, x11] ∧ l.length ≤ 40000 + 11 * k ∧ ∀ c ∈ l, c < 256) ⟨_, _, _, _, rfl, by omega, gs⟩ (fun k d2 ρ hx2 hI => ?_) (fun ρ hI => ?_))
    · obtain ⟨l, x9, x10, x11, rfl, hl, hc⟩ := hI
      have hk := (List.getElem?_eq_some_iff.mp hx2).1
      refine w_in ?_
      walk_at "w"
      refine mut_ok (by omega) hc fun l' y10 y11 h1 h2 => ?_
      exact ⟨l', _, _, _, rfl, by omega, h2⟩
    · obtain ⟨l, x9, x10, x11, rfl, hl, hc⟩ := hI
      walk_at "w"
      refine W.mono _ (fun x p => ?_) (fun _ z => z) (told_due (k := fun b => b = true) (e := fun _ => False) (by omega) hc rfl)
      walk_at "w"
      refine W.mono _ (fun y p => ?_) (fun _ z => z) p
      refine wo_ne (W.mono _ (fun b hb => ?_) (fun _ z => z) p)
      subst hb
      walk_at "w"
      exact ⟨_, _, _, _, _, _, _, _, rfl⟩
  · obtain ⟨x4, x5, x6, x7, x8, x9, x10, x11, rfl⟩ := hI
    walk_at "w"
    show (F_programs_text [prgX []]).rn _ _
    refine text_ok (by decide) (fun r hr => nomatch hr) (by decide) ?_
    walk_at "w"
    refine parse_ok (by decide) (by decide) (fun p hp _ => ?_) (fun no => ?_)
    · have : p = [] := textP_nil.mp hp.symm
      subst this
      walk_at "w"
      rw [decide_eq_true rfl]
    · exact absurd (no [] rfl) (by decide +kernel)
theorem law_holds : (F_L_law [.scr]).run (fun d => d = .bl true) (fun _ => False) := by
  have key : ∀ rows : List Row, G10 rows → ∀ {x3 x4 x5 x6 x7 x8 x9 x10 x11 : Option D}, (F_L_law_s3 [some .scr, some .strm, some (prgX rows), x3, x4, x5, x6, x7, x8, x9, x10, x11]).rn (Kdef fun d => d = .bl true) (fun _ => False) := fun rows g => by
    intro x3 x4 x5 x6 x7 x8 x9 x10 x11
    have gl := g.len
    have gt := g.tlen
    have gs := textP_signs rows
    unfold F_L_law_s3
    walk_at "w"
    refine ltext_ok (by omega) g.txt (by omega) ?_
    walk_at "w"
    refine told10_ok (by omega) gs (fun p hp _ => ?_) (fun no => by have := g.prog; rw [no rows rfl] at this; cases this)
    have : rows = p := textP_inj hp
    subst this
    walk_at "w"
    refine text_ok (by omega) g.txt (by omega) ?_
    walk_at "w"
    refine isprog_ok (fun r hr t ht => by have := (g.txt r hr).2; have e : rowLen r = t.enc.length := by unfold rowLen; rw [ht]
                                          omega) ?_
    rw [g.prog]
    walk_at "w"
    refine wk_dec (fun _ => ?_) (fun _ => ?_)
    · walk_at "w"
      refine draw_at 16 rfl (by decide) (by decide) fun v hv => ?_
      walk_at "w"
      rw [show (590 : Int) + (v : Int) = ((590 + v : Nat) : Int) by omega]
      obtain ⟨N, hN⟩ : ∃ N, N = 590 + v := ⟨_, rfl⟩
      rw [← hN]
      refine wo_mull (by omega) (by show 1 * N ≤ _; omega) ?_
      rw [flat_rep]
      have e1 : List.replicate N (D.str [116, 97, 105, 108, 32, 48, 32, 48]) = (List.replicate N [116, 97, 105, 108, 32, 48, 32, 48]).map D.str := by rw [List.map_replicate]
      rw [e1]
      have hsum : ((List.replicate N ([116, 97, 105, 108, 32, 48, 32, 48] : List Nat)).map (·.length)).sum = N * 8 := by
        rw [List.map_replicate, List.sum_replicate_nat]; rfl
      refine wo_join (by rw [hsum, List.length_replicate]; show N * 8 + N * 2 ≤ _; omega) ?_
      have hlen := joinL_le [59, 32] (List.replicate N ([116, 97, 105, 108, 32, 48, 32, 48] : List Nat))
      rw [hsum, List.length_replicate] at hlen
      have hlen : (TL.joinL [59, 32] (List.replicate N ([116, 97, 105, 108, 32, 48, 32, 48] : List Nat))).length ≤ N * 8 + N * 2 := hlen
      have hch : ∀ c ∈ TL.joinL [59, 32] (List.replicate N ([116, 97, 105, 108, 32, 48, 32, 48] : List Nat)), c < 256 := by
        refine joinL_signs (P := fun c => c < 256) (by decide) fun w hw => ?_
        rw [List.eq_of_mem_replicate hw]; decide
      generalize TL.joinL [59, 32] (List.replicate N ([116, 97, 105, 108, 32, 48, 32, 48] : List Nat)) = l at hlen hch ⊢
      walk_at "w"
      refine W.mono _ (fun x p => ?_) (fun _ z => z) (told_due (k := fun b => b = true) (e := fun _ => False) (by omega) hch rfl)
      walk_at "w"
      refine W.mono _ (fun y p => ?_) (fun _ z => z) p
      refine wo_eq (W.mono _ (fun b hb => ?_) (fun _ z => z) p)
      subst hb
      rfl
    · walk_at "w"
      exact law_tail g
  unfold F_L_law
  walk_at "d"
  refine stream_ok ?_
  walk_at "w"
  refine program_at 8 20 rfl rfl (by decide) (by decide) (by decide) fun rows h1 h2 h3 => ?_
  have t3 := tlen_trees h3
  walk_at "w"
  unfold F_L_law_s2
  walk_at "w"
  refine draw_at 16 rfl (by decide) (by decide) fun v hv => ?_
  walk_at "w"
  refine wk_dec (fun _ => ?_) (fun _ => ?_)
  · walk_at "w"
    refine long_ok fun rows l1 l2 ok tr tl => ?_
    walk_at "w"
    exact key rows ⟨ok, by omega, by omega⟩
  · walk_at "w"
    exact key rows ⟨h2, by omega, by omega⟩

section
variable {P : Program} {w : World} {K : PySem.W.Frag} {mg : Str → Option Value} {base : Heap}
theorem ok_L_law {f : Addr} {fd : FuncData} (T : Txt K mg w) (F : Fun K "law" "law" s_L_law f fd)
    (c_programs_parse : Cal P w K mg base (L2.CX P w) 4 "parse" ["line"] (spF K mg 1 .v F_programs_parse))
    (c_programs_text : Cal P w K mg base CX0 1 "text" ["program"] (spF K mg 1 .v F_programs_text))
    (c_L_told : Cal P w K mg base CX0 5 "_law_told" ["_law_line"] (spF K mg 1 .v F_L_told))
    (c_L_due : Cal P w K mg base CX0 3 "_law_due" ["_law_line"] (spF K mg 1 .v F_L_due))
    (b_L_draw : Cal P w K mg base CX0 1 "_law_draw" ["_law_stream_here", "_law_many"] (spF K mg 2 .v F_L_draw))
    (b_programs_is_program : Cal P w K mg base CX0 3 "is_program" ["value"] (spF K mg 1 .v F_programs_is_program))
    (c_L_text : Cal P w K mg base CX0 1 "_law_text" ["_law_program_here"] (spF K mg 1 .v F_L_text))
    (c_L_long : Cal P w K mg base CX0 2 "_law_long" ["_law_stream_here"] (spF K mg 1 .f F_L_long))
    (b_L_program : Cal P w K mg base CX0 3 "_law_program" ["_law_stream_here", "_law_most", "_law_wide"] (spF K mg 3 .f F_L_program))
    (b_L_stream : Cal P w K mg base CX0 1 "_law_stream" ["_law_script"] (spF K mg 1 .v F_L_stream)) : FnOk P w K mg base CX0 6 f fd ["_law_script"] (spLaw K mg) := by
  refine F.ok sc_L_law (fun vs H Q E h => (by obtain ⟨_, _, rfl, _⟩ := h; rfl)) (fun cdv A outer s H vs Q E hr h => ⟨_, (pss_cons (ps_set (i := 1) sc_L_law.nd rfl (.inl rfl) (nCall b_L_stream (hr.mono (by decide)) pass0 (pa_cons (nv 0) pa_nil)))
      (pss_cons (ps_set (i := 2) sc_L_law.nd rfl (.inl rfl) (nCall b_L_program (hr.mono (by decide)) pass0 (pa_cons (nv 1) (pa_cons pe_int (pa_cons pe_int pa_nil)))))
      (pss_cons (ps_if (nCmp (oEq (K := K) hr.units) (nCall b_L_draw (hr.mono (by decide)) pass0 (pa_cons (nv 1) (pa_cons pe_int pa_nil))) pe_int (nomark _)) (pss_one (ps_set (i := 2) sc_L_law.nd rfl (.inl rfl) (nCall c_L_long (hr.mono (by decide)) pass0 (pa_cons (nv 1) pa_nil)))) pss_nil)
      (pss_cons (ps_set (i := 3) sc_L_law.nd rfl (.inl rfl) (nCall c_L_text (hr.mono (by decide)) pass0 (pa_cons (nv 2) pa_nil)))
      (pss_cons (ps_set (i := 4) sc_L_law.nd rfl (.inl rfl) (pe_callTy (cList (K := K)) (by rfl) T.n_list PyProof.Rows.boot_list (pa_cons (nv 2) pa_nil)))
      (pss_cons (ps_set (i := 5) sc_L_law.nd rfl (.inl rfl) (nCall c_L_told (hr.mono (by decide)) pass0 (pa_cons (nv 3) pa_nil)))
      (pss_cons (ps_if (PW.pt (pw_or (nCmp (oNe (K := K) hr.units) (nCall c_programs_text (hr.mono (by decide)) pass0 (pa_cons (nv 4) pa_nil)) (nv 3) (nomark _)) (pw_or (nCmp (oNe (K := K) hr.units) (nv 4) (nv 2) (nomark _)) (pw_or (nCmp (oNe (K := K) hr.units) (nv 5) (nv 2) (nomark _)) (pw_or1 (nCmp oIsNot (nCall b_programs_is_program (hr.mono (by decide)) pass0 (pa_cons (nv 5) pa_nil)) pe_bl (nomark _))))))) (pss_one (ps_ret pe_bl)) pss_nil)
      (pss_cons (ps_if (nCmp oGt (pe_callB (cLen (K := K)) (by rfl) T.n_len PySem.boot_len (pa_cons (nv 2) pa_nil)) pe_int (nomark _)) (pss_cons (ps_set (i := 6) sc_L_law.nd rfl (.inl rfl) (pe_op (oAdd (K := K)) pe_int (nCall b_L_draw (hr.mono (by decide)) pass0 (pa_cons (nv 1) (pa_cons pe_int pa_nil)))))
      (pss_cons (ps_set (i := 7) sc_L_law.nd rfl (.inl rfl) (pe_join pe_str (pe_op (oMul (K := K)) (pe_lst (pa_cons pe_str pa_nil)) (nv 6))))
      (pss_one (ps_ret (pe_cmpR (oEq (K := K) hr.units) (nCall c_L_told (hr.mono (by decide)) pass0 (pa_cons (nv 7) pa_nil)) (nCall c_L_due (hr.mono (by decide)) pass0 (pa_cons (nv 7) pa_nil)) (nomark _)))))) pss_nil)
      (pss_cons (ps_for PassesOwn.never rfl (pi_range1 (by rfl) T.n_range (pa_cons pe_int pa_nil)) (pg_name (i := 8) sc_L_law.nd rfl (.inl rfl)) (pss_cons (ps_set (i := 7) sc_L_law.nd rfl (.inl rfl) (nv 3))
      (pss_cons (ps_for PassesOwn.never rfl (pi_range1 (by rfl) T.n_range (pa_cons (pe_op (oAdd (K := K)) pe_int (nCall b_L_draw (hr.mono (by decide)) pass0 (pa_cons (nv 1) (pa_cons pe_int pa_nil)))) pa_nil)) (pg_name (i := 9) sc_L_law.nd rfl (.inl rfl)) (pss_cons (ps_set (i := 10) sc_L_law.nd rfl (.inl rfl) (nCall b_L_draw (hr.mono (by decide)) pass0 (pa_cons (nv 1) (pa_cons (pe_op (oAdd (K := K)) (pe_callB (cLen (K := K)) (by rfl) T.n_len PySem.boot_len (pa_cons (nv 7) pa_nil)) pe_int) pa_nil))))
      (pss_cons (ps_set (i := 11) sc_L_law.nd rfl (.inl rfl) (pe_ix (ixU (K := K)) (pe_lst (pa_cons pe_str (pa_cons pe_str (pa_cons pe_str (pa_cons pe_str (pa_cons pe_str (pa_cons pe_str (pa_cons pe_str (pa_cons pe_str (pa_cons pe_str (pa_cons pe_str (pa_cons pe_str (pa_cons pe_str (pa_cons pe_str (pa_cons pe_str (pa_cons pe_str pa_nil)))))))))))))))) (nCall b_L_draw (hr.mono (by decide)) pass0 (pa_cons (nv 1) (pa_cons pe_int pa_nil))) (fun _ _ => rfl)))
      (pss_cons (ps_if (nCmp (oEq (K := K) hr.units) (nCall b_L_draw (hr.mono (by decide)) pass0 (pa_cons (nv 1) (pa_cons pe_int pa_nil))) pe_int (nomark _)) (pss_one (ps_set (i := 11) sc_L_law.nd rfl (.inl rfl) (pe_ix (ixU (K := K)) pe_str (nCall b_L_draw (hr.mono (by decide)) pass0 (pa_cons (nv 1) (pa_cons pe_int pa_nil))) (fun _ _ => rfl)))) pss_nil)
      (pss_one (ps_set (i := 7) sc_L_law.nd rfl (.inl rfl) (pe_op (oAdd (K := K)) (pe_op (oAdd (K := K)) (pe_slice (slU (K := K)) (nv 7) po_none (po_some (nv 10))) (nv 11)) (pe_slice (slU (K := K)) (nv 7) (po_some (pe_op (oAdd (K := K)) (nv 10) (nCall b_L_draw (hr.mono (by decide)) pass0 (pa_cons (nv 1) (pa_cons pe_int pa_nil))))) po_none))))))))
      (pss_one (ps_if (nCmp (oNe (K := K) hr.units) (nCall c_L_told (hr.mono (by decide)) pass0 (pa_cons (nv 7) pa_nil)) (nCall c_L_due (hr.mono (by decide)) pass0 (pa_cons (nv 7) pa_nil)) (nomark _)) (pss_one (ps_ret pe_bl)) pss_nil)))))
      (pss_one (ps_ret (pe_and (pe_cmpR (oEq (K := K) hr.units) (nCall c_programs_text (hr.mono (by decide)) pass0 (pa_cons (pe_lst pa_nil) pa_nil)) pe_str (nomark _)) (pe_one (pe_cmpR (oEq (K := K) hr.units) (nCall c_programs_parse (hr.mono (by decide)) passL (pa_cons pe_str pa_nil)) (pe_lst pa_nil) (nomark _))))))))))))))),
    sd_def (m := .v) (oN := []) (oB := []) (oC := []) (fun q => nomatch q)
      (sd_seq (o1 := []) (sd_set (oN := []) (pd_calm (len_cons len_nil) (pda_cons (pd_v (by decide)) pda_nil)) (by decide) (by decide) (by decide))
      (sd_seq (o1 := []) (sd_set (oN := []) (PD.fv (pd_calm (len_cons (len_cons (len_cons len_nil))) (pda_cons (pd_v (by decide)) (pda_cons pd_int (pda_cons pd_int pda_nil))))) (by decide) (by decide) (by decide))
      (sd_seq (o1 := []) (sd_if (pdt_v (pd_op rd_eq (PD.s (pd_calm (len_cons (len_cons len_nil)) (pda_cons (pd_v (by decide)) (pda_cons pd_int pda_nil)))) (PD.s pd_int)))
      (sd_set (oN := []) (PD.fv (pd_calm (len_cons len_nil) (pda_cons (pd_v (by decide)) pda_nil))) (by decide) (by decide) (by decide))
      sd_next)
      (sd_seq (o1 := []) (sd_set (oN := []) (pd_calm (len_cons len_nil) (pda_cons (pd_v (by decide)) pda_nil)) (by decide) (by decide) (by decide))
      (sd_seq (o1 := []) (sd_set (oN := []) (pd_cb1 rc_list (PD.s (pd_v (by decide)))) (by decide) (by decide) (by decide))
      (sd_seq (o1 := []) (sd_set (oN := []) (pd_calm (len_cons len_nil) (pda_cons (pd_v (by decide)) pda_nil)) (by decide) (by decide) (by decide))
      (sd_seq (o1 := []) (sd_if (pdt_or (pdt_v (pd_op rd_ne (PD.s (pd_calm (len_cons len_nil) (pda_cons (pd_v (by decide)) pda_nil))) (PD.s (pd_v (by decide))))) (pdt_or (pdt_v (pd_op rd_ne (PD.s (pd_v (by decide))) (PD.s (pd_v (by decide))))) (pdt_or (pdt_v (pd_op rd_ne (PD.s (pd_v (by decide))) (PD.s (pd_v (by decide))))) (pdt_v (pd_op rd_isnot (PD.s (pd_calm (len_cons len_nil) (pda_cons (pd_v (by decide)) pda_nil))) (PD.s pd_bl))))))
      (sd_ret pd_bl)
      sd_next)
      (sd_seq (o1 := []) (sd_if (pdt_v (pd_op rd_ci (pd_cb1 rc_len (PD.s (pd_v (by decide)))) (PD.s pd_int)))
      (sd_seq (o1 := []) (sd_set (oN := []) (pd_op rd_add (PD.s pd_int) (PD.s (pd_calm (len_cons (len_cons len_nil)) (pda_cons (pd_v (by decide)) (pda_cons pd_int pda_nil))))) (by decide) (by decide) (by decide))
      (sd_seq (o1 := []) (sd_set (oN := []) (pd_join (PD.s (pd_str [59, 32] (by rfl))) (pd_op rd_mul (pd_lst (pda_cons (pd_str [116, 97, 105, 108, 32, 48, 32, 48] (by rfl)) pda_nil)) (PD.s (pd_v (by decide))))) (by decide) (by decide) (by decide))
      (sd_ret (pd_op rd_eq (PD.s (pd_calm (len_cons len_nil) (pda_cons (pd_v (by decide)) pda_nil))) (PD.s (pd_calm (len_cons len_nil) (pda_cons (pd_v (by decide)) pda_nil)))))))
      sd_next)
      (sd_seq (o1 := []) (sd_for (vs := [8]) (pdi_r1 (pda_cons pd_int pda_nil)) (pgd_n (by decide) (by decide)) (by decide)
      (sd_seq (o1 := []) (sd_set (oN := []) (pd_v (by decide)) (by decide) (by decide) (by decide))
      (sd_seq (o1 := []) (sd_for (vs := [9]) (pdi_r1 (pda_cons (pd_op rd_add (PD.s pd_int) (PD.s (pd_calm (len_cons (len_cons len_nil)) (pda_cons (pd_v (by decide)) (pda_cons pd_int pda_nil))))) pda_nil)) (pgd_n (by decide) (by decide)) (by decide)
      (sd_seq (o1 := []) (sd_set (oN := []) (pd_calm (len_cons (len_cons len_nil)) (pda_cons (pd_v (by decide)) (pda_cons (pd_op rd_add (pd_cb1 rc_len (PD.s (pd_v (by decide)))) (PD.s pd_int)) pda_nil))) (by decide) (by decide) (by decide))
      (sd_seq (o1 := []) (sd_set (oN := []) (pd_op rd_ix (pd_lst (pda_cons (pd_str [] (by rfl)) (pda_cons (pd_str [48] (by rfl)) (pda_cons (pd_str [49] (by rfl)) (pda_cons (pd_str [50] (by rfl)) (pda_cons (pd_str [45] (by rfl)) (pda_cons (pd_str [32] (by rfl)) (pda_cons (pd_str [59] (by rfl)) (pda_cons (pd_str [59, 32] (by rfl)) (pda_cons (pd_str [115, 101, 116] (by rfl)) (pda_cons (pd_str [106, 117, 109, 112, 32, 48, 32, 48, 59, 32] (by rfl)) (pda_cons (pd_str [45, 48] (by rfl)) (pda_cons (pd_str [48, 48] (by rfl)) (pda_cons (pd_str [116] (by rfl)) (pda_cons (pd_str [10] (by rfl)) (pda_cons (pd_str [99, 111, 110, 115, 32, 49, 32, 50, 32, 51] (by rfl)) pda_nil)))))))))))))))) (PD.s (pd_calm (len_cons (len_cons len_nil)) (pda_cons (pd_v (by decide)) (pda_cons pd_int pda_nil))))) (by decide) (by decide) (by decide))
      (sd_seq (o1 := []) (sd_if (pdt_v (pd_op rd_eq (PD.s (pd_calm (len_cons (len_cons len_nil)) (pda_cons (pd_v (by decide)) (pda_cons pd_int pda_nil)))) (PD.s pd_int)))
      (sd_set (oN := []) (pd_op rd_ix (PD.s (pd_str [32, 33, 34, 35, 36, 38, 39, 40, 41, 42, 43, 44, 45, 46, 47, 48, 49, 50, 51, 52, 53, 54, 55, 56, 57, 58, 59, 60, 61, 62, 63, 64, 65, 66, 67, 68, 69, 70, 71, 72, 73, 74, 75, 76, 77, 78, 79, 80, 81, 82, 83, 84, 85, 86, 87, 88, 89, 90, 91, 92, 93, 94, 95, 96, 97, 98, 99, 100, 101, 102, 103, 104, 105, 106, 107, 108, 109, 110, 111, 112, 113, 114, 115, 116, 117, 118, 119, 120, 121, 122, 123, 124, 125, 126] (by rfl))) (PD.s (pd_calm (len_cons (len_cons len_nil)) (pda_cons (pd_v (by decide)) (pda_cons pd_int pda_nil))))) (by decide) (by decide) (by decide))
      sd_next)
      (sd_set (oN := []) (pd_op rd_add (pd_op rd_add (pd_sl (PD.s (pd_v (by decide))) pdo_no (pdo_some (pd_v (by decide)))) (PD.s (pd_v (by decide)))) (pd_sl (PD.s (pd_v (by decide))) (pdo_some (pd_op rd_add (PD.s (pd_v (by decide))) (PD.s (pd_calm (len_cons (len_cons len_nil)) (pda_cons (pd_v (by decide)) (pda_cons pd_int pda_nil)))))) pdo_no)) (by decide) (by decide) (by decide))))))
      (sd_if (pdt_v (pd_op rd_ne (PD.s (pd_calm (len_cons len_nil) (pda_cons (pd_v (by decide)) pda_nil))) (PD.s (pd_calm (len_cons len_nil) (pda_cons (pd_v (by decide)) pda_nil)))))
      (sd_ret pd_bl)
      sd_next))))
      (sd_ret (pd_andV (pd_op rd_eq (PD.s (pd_calm (len_cons len_nil) (pda_cons (pd_lst pda_nil) pda_nil))) (PD.s (pd_str [] (by rfl)))) (pd_op rd_eq (PD.s (pd_calm (len_cons len_nil) (pda_cons (pd_str [] (by rfl)) pda_nil))) (pd_lst pda_nil))))))))))))) (law_sp law_holds h)⟩)
end
theorem all_ok {P : Program} {w : World} {K : PySem.W.Frag} {mg : Str → Option Value} {base : Heap} {f : Addr} {fd : FuncData} (T : Txt K mg w) (F : Fun K "law" "law" s_L_law f fd) : FnOk P w K mg base CX0 6 f fd ["_law_script"] (spLaw K mg) := by
  have c_programs_is_whole := ok_programs_is_whole (P := P) (w := w) (base := base) T 
  have b_programs_is_whole := br_programs_is_whole c_programs_is_whole
  have c_trees_is_tree := ok_trees_is_tree (P := P) (w := w) (base := base) T 
  have b_trees_is_tree := br_trees_is_tree c_trees_is_tree
  have c_programs_is_instruction := ok_programs_is_instruction (P := P) (w := w) (base := base) T c_programs_is_whole c_trees_is_tree
  have c_programs_is_program := ok_programs_is_program (P := P) (w := w) (base := base) T c_programs_is_instruction
  have b_programs_is_program := br_programs_is_program c_programs_is_program
  have c_programs_parse_number := ok_programs_parse_number (P := P) (w := w) (base := base) T 
  have c_programs_parse_row := ok_programs_parse_row (P := P) (w := w) (base := base) T c_programs_parse_number
  have c_programs_parse := ok_programs_parse (P := P) (w := w) (base := base) T b_programs_is_program c_programs_parse_row
  have c_programs_text := ok_programs_text (P := P) (w := w) (base := base) T 
  have c_L_is_tree := ok_L_is_tree (P := P) (w := w) (base := base) T 
  have c_L_number := ok_L_number (P := P) (w := w) (base := base) T 
  have c_L_row := ok_L_row (P := P) (w := w) (base := base) T c_L_is_tree c_L_number
  have c_L_due := ok_L_due (P := P) (w := w) (base := base) T c_L_row
  have c_L_given := ok_L_given (P := P) (w := w) (base := base) T 
  have c_L_told := ok_L_told (P := P) (w := w) (base := base) T c_L_given c_programs_parse
  have c_L_draw := ok_L_draw (P := P) (w := w) (base := base) T 
  have b_L_draw := br_L_draw c_L_draw
  have c_L_text := ok_L_text (P := P) (w := w) (base := base) T 
  have c_L_long := ok_L_long (P := P) (w := w) (base := base) T b_L_draw
  have c_L_tree := ok_L_tree (P := P) (w := w) (base := base) T c_L_draw
  have b_L_tree := br_L_tree c_L_tree
  have c_L_program := ok_L_program (P := P) (w := w) (base := base) T c_L_tree c_L_draw
  have b_L_program := br_L_program c_L_program
  have c_L_stream := ok_L_stream (P := P) (w := w) (base := base) T 
  have b_L_stream := br_L_stream c_L_stream
  exact ok_L_law T F c_programs_parse c_programs_text c_L_told c_L_due b_L_draw b_programs_is_program c_L_text c_L_long b_L_program b_L_stream
theorem fin_mk {P : Program} {w : World} {K : PySem.W.Frag} {h : Heap} {mg : Str → Option Value} {fa : Addr} (X : K.In h) (G : h.Ns mainGlobals mg) (hfa : mg "law" = some (.ref fa))
    {C1 : Addr} (a1 : PySem.W.nsIn K mainGlobals "BadText" = some (some (.ref C1))) (x1 : PySem.W.excIn K C1 [.type "ValueError", .type "Exception", .type "BaseException", .type "object"] "ValueError.__new__" = true) (k1 : PySem.W.keepIn K (.ref C1) = true) (s1 : PySem.W.subIn K (.ref C1) (.type "BaseException") = some true) (t1 : PySem.W.typeIn K (.ref C1) = some (.type "type")) (i1 : PySem.W.isClsIn K C1 = true)
    {C2 : Addr} (a2 : PySem.W.nsIn K mainGlobals "NarcissusError" = some (some (.ref C2))) (x2 : PySem.W.excIn K C2 [.type "ValueError", .type "Exception", .type "BaseException", .type "object"] "ValueError.__new__" = true) (k2 : PySem.W.keepIn K (.ref C2) = true) (s2 : PySem.W.subIn K (.ref C2) (.type "BaseException") = some true) (t2 : PySem.W.typeIn K (.ref C2) = some (.type "type")) (i2 : PySem.W.isClsIn K C2 = true)
    (p3 : PySem.W.subIn K (.ref C1) (.ref C1) = some true)
    (p4 : PySem.W.subIn K (.ref C2) (.ref C1) = some false)
    (b5 : PySem.W.findIn K (.ref C1) "__getattribute__" = some (some (.builtin "BaseException.__getattribute__"))) (d5 : PySem.W.findIn K (.ref C1) "__getattr__" = some none) (e5 : PySem.W.hasDictIn K C1 = true) (g5 : PySem.W.findIn K (.ref C1) "__class__" = some (some (.builtin "object.__class__"))) (h5 : PySem.W.specialIn K (.builtin "object.__class__") "__get__" = some (some (.builtin "getset_descriptor.__get__"))) (j5 : PySem.W.takesIn K (.builtin "object.__class__") = some true) (m5 : PySem.W.mroIn K C1 (.type "object") = some true)
    (q6 : PySem.W.subIn K (.ref C1) (.ref C2) = some true) (w6 : C1 = C2 → ("BadText" : Str) = "NarcissusError")
    (q7 : PySem.W.subIn K (.ref C1) (.type "ValueError") = some true)
    (b8 : PySem.W.findIn K (.ref C2) "__getattribute__" = some (some (.builtin "BaseException.__getattribute__"))) (d8 : PySem.W.findIn K (.ref C2) "__getattr__" = some none) (e8 : PySem.W.hasDictIn K C2 = true) (g8 : PySem.W.findIn K (.ref C2) "__class__" = some (some (.builtin "object.__class__"))) (h8 : PySem.W.specialIn K (.builtin "object.__class__") "__get__" = some (some (.builtin "getset_descriptor.__get__"))) (j8 : PySem.W.takesIn K (.builtin "object.__class__") = some true) (m8 : PySem.W.mroIn K C2 (.type "object") = some true)
    (q9 : PySem.W.subIn K (.ref C2) (.ref C2) = some true) (w9 : C2 = C2 → ("NarcissusError" : Str) = "NarcissusError")
    (q10 : PySem.W.subIn K (.ref C2) (.type "ValueError") = some true)
    {tk11 : Tok} (z11 : PySem.W.nsIn K mainGlobals "DIGITS" = some (some (.str "0123456789" tk11)))
    {tk12 : Tok} (z12 : PySem.W.nsIn K mainGlobals "MOST_CODE" = some (some (.int 600 tk12)))
    {tk13 : Tok} (z13 : PySem.W.nsIn K mainGlobals "MOST_TREE" = some (some (.int 200000 tk13)))
    {d14 : Addr} {es14 : Array DictEntry} {nn14 : Nat} {td14_0 td14_1 td14_2 td14_3 td14_4 td14_5 : Tok} (z14 : PySem.W.nsIn K mainGlobals "PARTS" = some (some (.ref d14))) (y14 : K.lookup d14 = some ⟨.type "dict", none, .dict es14 nn14, #[]⟩) (u14 : PySem.W.KeysLit w.params es14.toList) (v14 : (d14 == sysModules) = false)
    (o14_0 : PySem.W.nsIn K d14 "set" = some (some (.int 3 td14_0)))
    (o14_1 : PySem.W.nsIn K d14 "move" = some (some (.int 3 td14_1)))
    (o14_2 : PySem.W.nsIn K d14 "cons" = some (some (.int 4 td14_2)))
    (o14_3 : PySem.W.nsIn K d14 "head" = some (some (.int 3 td14_3)))
    (o14_4 : PySem.W.nsIn K d14 "tail" = some (some (.int 3 td14_4)))
    (o14_5 : PySem.W.nsIn K d14 "jump" = some (some (.int 3 td14_5)))
    {tk15 : Tok} (z15 : PySem.W.nsIn K mainGlobals "REGISTERS" = some (some (.int 20 tk15)))
    {a16 : Addr} {tq16_0 tq16_1 tq16_2 tq16_3 tq16_4 tq16_5 : Tok} {nn16 : Nat} {sl16 : Array (Option Value)} (z16 : PySem.W.nsIn K mainGlobals "WORDS" = some (some (.ref a16))) (y16 : K.lookup a16 = some ⟨.type "tuple", none, .seq #[.str "set" tq16_0, .str "move" tq16_1, .str "cons" tq16_2, .str "head" tq16_3, .str "tail" tq16_4, .str "jump" tq16_5] nn16, sl16⟩)
    (z17 : PySem.W.nsIn K mainGlobals "ValueError" = some none)
    (z18 : PySem.W.nsIn K mainGlobals "abs" = some none)
    (z19 : PySem.W.nsIn K mainGlobals "all" = some none)
    (z20 : PySem.W.nsIn K mainGlobals "any" = some none)
    (z21 : PySem.W.nsIn K mainGlobals "bool" = some none)
    (z22 : PySem.W.nsIn K mainGlobals "enumerate" = some none)
    (z23 : PySem.W.nsIn K mainGlobals "int" = some none)
    (z24 : PySem.W.nsIn K mainGlobals "isinstance" = some none)
    (z25 : PySem.W.nsIn K mainGlobals "len" = some none)
    (z26 : PySem.W.nsIn K mainGlobals "list" = some none)
    (z27 : PySem.W.nsIn K mainGlobals "range" = some none)
    (z28 : PySem.W.nsIn K mainGlobals "str" = some none)
    (z29 : PySem.W.nsIn K mainGlobals "sum" = some none)
    (z30 : PySem.W.nsIn K mainGlobals "tuple" = some none)
    {f31 : Addr} {od31 an31 : Option Addr} {sl31 : Array (Option Value)} {oc31 kV31 dc31 pm31 cd31 ct31 : Value}
    (a31 : PySem.W.nsIn K mainGlobals "is_whole" = some (some (.ref f31))) (l31 : K.lookup f31 = some ⟨oc31, od31, .func (PySem.W.fnOf "is_whole" "is_whole" (defArgs s_programs_is_whole) (defBody s_programs_is_whole) (defScope s_programs_is_whole) .none kV31 dc31 pm31 an31 cd31 ct31), sl31⟩) (c31 : PySem.W.codeIn K cd31 "is_whole" = true) (k31 : PySem.W.keepIn K (.ref f31) = true)
    {f32 : Addr} {od32 an32 : Option Addr} {sl32 : Array (Option Value)} {oc32 kV32 dc32 pm32 cd32 ct32 : Value}
    (a32 : PySem.W.nsIn K mainGlobals "is_tree" = some (some (.ref f32))) (l32 : K.lookup f32 = some ⟨oc32, od32, .func (PySem.W.fnOf "is_tree" "is_tree" (defArgs s_trees_is_tree) (defBody s_trees_is_tree) (defScope s_trees_is_tree) .none kV32 dc32 pm32 an32 cd32 ct32), sl32⟩) (c32 : PySem.W.codeIn K cd32 "is_tree" = true) (k32 : PySem.W.keepIn K (.ref f32) = true)
    {f33 : Addr} {od33 an33 : Option Addr} {sl33 : Array (Option Value)} {oc33 kV33 dc33 pm33 cd33 ct33 : Value}
    (a33 : PySem.W.nsIn K mainGlobals "is_instruction" = some (some (.ref f33))) (l33 : K.lookup f33 = some ⟨oc33, od33, .func (PySem.W.fnOf "is_instruction" "is_instruction" (defArgs s_programs_is_instruction) (defBody s_programs_is_instruction) (defScope s_programs_is_instruction) .none kV33 dc33 pm33 an33 cd33 ct33), sl33⟩) (c33 : PySem.W.codeIn K cd33 "is_instruction" = true) (k33 : PySem.W.keepIn K (.ref f33) = true)
    {f34 : Addr} {od34 an34 : Option Addr} {sl34 : Array (Option Value)} {oc34 kV34 dc34 pm34 cd34 ct34 : Value}
    (a34 : PySem.W.nsIn K mainGlobals "is_program" = some (some (.ref f34))) (l34 : K.lookup f34 = some ⟨oc34, od34, .func (PySem.W.fnOf "is_program" "is_program" (defArgs s_programs_is_program) (defBody s_programs_is_program) (defScope s_programs_is_program) .none kV34 dc34 pm34 an34 cd34 ct34), sl34⟩) (c34 : PySem.W.codeIn K cd34 "is_program" = true) (k34 : PySem.W.keepIn K (.ref f34) = true)
    {f35 : Addr} {od35 an35 : Option Addr} {sl35 : Array (Option Value)} {oc35 kV35 dc35 pm35 cd35 ct35 : Value}
    (a35 : PySem.W.nsIn K mainGlobals "parse_number" = some (some (.ref f35))) (l35 : K.lookup f35 = some ⟨oc35, od35, .func (PySem.W.fnOf "parse_number" "parse_number" (defArgs s_programs_parse_number) (defBody s_programs_parse_number) (defScope s_programs_parse_number) .none kV35 dc35 pm35 an35 cd35 ct35), sl35⟩) (c35 : PySem.W.codeIn K cd35 "parse_number" = true) (k35 : PySem.W.keepIn K (.ref f35) = true)
    {f36 : Addr} {od36 an36 : Option Addr} {sl36 : Array (Option Value)} {oc36 kV36 dc36 pm36 cd36 ct36 : Value}
    (a36 : PySem.W.nsIn K mainGlobals "parse_row" = some (some (.ref f36))) (l36 : K.lookup f36 = some ⟨oc36, od36, .func (PySem.W.fnOf "parse_row" "parse_row" (defArgs s_programs_parse_row) (defBody s_programs_parse_row) (defScope s_programs_parse_row) .none kV36 dc36 pm36 an36 cd36 ct36), sl36⟩) (c36 : PySem.W.codeIn K cd36 "parse_row" = true) (k36 : PySem.W.keepIn K (.ref f36) = true)
    {f37 : Addr} {od37 an37 : Option Addr} {sl37 : Array (Option Value)} {oc37 kV37 dc37 pm37 cd37 ct37 : Value}
    (a37 : PySem.W.nsIn K mainGlobals "parse" = some (some (.ref f37))) (l37 : K.lookup f37 = some ⟨oc37, od37, .func (PySem.W.fnOf "parse" "parse" (defArgs s_programs_parse) (defBody s_programs_parse) (defScope s_programs_parse) .none kV37 dc37 pm37 an37 cd37 ct37), sl37⟩) (c37 : PySem.W.codeIn K cd37 "parse" = true) (k37 : PySem.W.keepIn K (.ref f37) = true)
    {f38 : Addr} {od38 an38 : Option Addr} {sl38 : Array (Option Value)} {oc38 kV38 dc38 pm38 cd38 ct38 : Value}
    (a38 : PySem.W.nsIn K mainGlobals "text" = some (some (.ref f38))) (l38 : K.lookup f38 = some ⟨oc38, od38, .func (PySem.W.fnOf "text" "text" (defArgs s_programs_text) (defBody s_programs_text) (defScope s_programs_text) .none kV38 dc38 pm38 an38 cd38 ct38), sl38⟩) (c38 : PySem.W.codeIn K cd38 "text" = true) (k38 : PySem.W.keepIn K (.ref f38) = true)
    {f39 : Addr} {od39 an39 : Option Addr} {sl39 : Array (Option Value)} {oc39 kV39 dc39 pm39 cd39 ct39 : Value}
    (a39 : PySem.W.nsIn K mainGlobals "_law_given" = some (some (.ref f39))) (l39 : K.lookup f39 = some ⟨oc39, od39, .func (PySem.W.fnOf "_law_given" "_law_given" (defArgs s_L_given) (defBody s_L_given) (defScope s_L_given) .none kV39 dc39 pm39 an39 cd39 ct39), sl39⟩) (c39 : PySem.W.codeIn K cd39 "_law_given" = true) (k39 : PySem.W.keepIn K (.ref f39) = true)
    {f40 : Addr} {od40 an40 : Option Addr} {sl40 : Array (Option Value)} {oc40 kV40 dc40 pm40 cd40 ct40 : Value}
    (a40 : PySem.W.nsIn K mainGlobals "_law_told" = some (some (.ref f40))) (l40 : K.lookup f40 = some ⟨oc40, od40, .func (PySem.W.fnOf "_law_told" "_law_told" (defArgs s_L_told) (defBody s_L_told) (defScope s_L_told) .none kV40 dc40 pm40 an40 cd40 ct40), sl40⟩) (c40 : PySem.W.codeIn K cd40 "_law_told" = true) (k40 : PySem.W.keepIn K (.ref f40) = true)
    {f41 : Addr} {od41 an41 : Option Addr} {sl41 : Array (Option Value)} {oc41 kV41 dc41 pm41 cd41 ct41 : Value}
    (a41 : PySem.W.nsIn K mainGlobals "_law_is_tree" = some (some (.ref f41))) (l41 : K.lookup f41 = some ⟨oc41, od41, .func (PySem.W.fnOf "_law_is_tree" "_law_is_tree" (defArgs s_L_is_tree) (defBody s_L_is_tree) (defScope s_L_is_tree) .none kV41 dc41 pm41 an41 cd41 ct41), sl41⟩) (c41 : PySem.W.codeIn K cd41 "_law_is_tree" = true) (k41 : PySem.W.keepIn K (.ref f41) = true)
    {f42 : Addr} {od42 an42 : Option Addr} {sl42 : Array (Option Value)} {oc42 kV42 dc42 pm42 cd42 ct42 : Value}
    (a42 : PySem.W.nsIn K mainGlobals "_law_number" = some (some (.ref f42))) (l42 : K.lookup f42 = some ⟨oc42, od42, .func (PySem.W.fnOf "_law_number" "_law_number" (defArgs s_L_number) (defBody s_L_number) (defScope s_L_number) .none kV42 dc42 pm42 an42 cd42 ct42), sl42⟩) (c42 : PySem.W.codeIn K cd42 "_law_number" = true) (k42 : PySem.W.keepIn K (.ref f42) = true)
    {f43 : Addr} {od43 an43 : Option Addr} {sl43 : Array (Option Value)} {oc43 kV43 dc43 pm43 cd43 ct43 : Value}
    (a43 : PySem.W.nsIn K mainGlobals "_law_row" = some (some (.ref f43))) (l43 : K.lookup f43 = some ⟨oc43, od43, .func (PySem.W.fnOf "_law_row" "_law_row" (defArgs s_L_row) (defBody s_L_row) (defScope s_L_row) .none kV43 dc43 pm43 an43 cd43 ct43), sl43⟩) (c43 : PySem.W.codeIn K cd43 "_law_row" = true) (k43 : PySem.W.keepIn K (.ref f43) = true)
    {f44 : Addr} {od44 an44 : Option Addr} {sl44 : Array (Option Value)} {oc44 kV44 dc44 pm44 cd44 ct44 : Value}
    (a44 : PySem.W.nsIn K mainGlobals "_law_due" = some (some (.ref f44))) (l44 : K.lookup f44 = some ⟨oc44, od44, .func (PySem.W.fnOf "_law_due" "_law_due" (defArgs s_L_due) (defBody s_L_due) (defScope s_L_due) .none kV44 dc44 pm44 an44 cd44 ct44), sl44⟩) (c44 : PySem.W.codeIn K cd44 "_law_due" = true) (k44 : PySem.W.keepIn K (.ref f44) = true)
    {f45 : Addr} {od45 an45 : Option Addr} {sl45 : Array (Option Value)} {oc45 kV45 dc45 pm45 cd45 ct45 : Value}
    (a45 : PySem.W.nsIn K mainGlobals "_law_draw" = some (some (.ref f45))) (l45 : K.lookup f45 = some ⟨oc45, od45, .func (PySem.W.fnOf "_law_draw" "_law_draw" (defArgs s_L_draw) (defBody s_L_draw) (defScope s_L_draw) .none kV45 dc45 pm45 an45 cd45 ct45), sl45⟩) (c45 : PySem.W.codeIn K cd45 "_law_draw" = true) (k45 : PySem.W.keepIn K (.ref f45) = true)
    {f46 : Addr} {od46 an46 : Option Addr} {sl46 : Array (Option Value)} {oc46 kV46 dc46 pm46 cd46 ct46 : Value}
    (a46 : PySem.W.nsIn K mainGlobals "_law_text" = some (some (.ref f46))) (l46 : K.lookup f46 = some ⟨oc46, od46, .func (PySem.W.fnOf "_law_text" "_law_text" (defArgs s_L_text) (defBody s_L_text) (defScope s_L_text) .none kV46 dc46 pm46 an46 cd46 ct46), sl46⟩) (c46 : PySem.W.codeIn K cd46 "_law_text" = true) (k46 : PySem.W.keepIn K (.ref f46) = true)
    {f47 : Addr} {od47 an47 : Option Addr} {sl47 : Array (Option Value)} {oc47 kV47 dc47 pm47 cd47 ct47 : Value}
    (a47 : PySem.W.nsIn K mainGlobals "_law_long" = some (some (.ref f47))) (l47 : K.lookup f47 = some ⟨oc47, od47, .func (PySem.W.fnOf "_law_long" "_law_long" (defArgs s_L_long) (defBody s_L_long) (defScope s_L_long) .none kV47 dc47 pm47 an47 cd47 ct47), sl47⟩) (c47 : PySem.W.codeIn K cd47 "_law_long" = true) (k47 : PySem.W.keepIn K (.ref f47) = true)
    {f48 : Addr} {od48 an48 : Option Addr} {sl48 : Array (Option Value)} {oc48 kV48 dc48 pm48 cd48 ct48 : Value}
    (a48 : PySem.W.nsIn K mainGlobals "_law_tree" = some (some (.ref f48))) (l48 : K.lookup f48 = some ⟨oc48, od48, .func (PySem.W.fnOf "_law_tree" "_law_tree" (defArgs s_L_tree) (defBody s_L_tree) (defScope s_L_tree) .none kV48 dc48 pm48 an48 cd48 ct48), sl48⟩) (c48 : PySem.W.codeIn K cd48 "_law_tree" = true) (k48 : PySem.W.keepIn K (.ref f48) = true)
    {f49 : Addr} {od49 an49 : Option Addr} {sl49 : Array (Option Value)} {oc49 kV49 dc49 pm49 cd49 ct49 : Value}
    (a49 : PySem.W.nsIn K mainGlobals "_law_program" = some (some (.ref f49))) (l49 : K.lookup f49 = some ⟨oc49, od49, .func (PySem.W.fnOf "_law_program" "_law_program" (defArgs s_L_program) (defBody s_L_program) (defScope s_L_program) .none kV49 dc49 pm49 an49 cd49 ct49), sl49⟩) (c49 : PySem.W.codeIn K cd49 "_law_program" = true) (k49 : PySem.W.keepIn K (.ref f49) = true)
    {f50 : Addr} {od50 an50 : Option Addr} {sl50 : Array (Option Value)} {oc50 kV50 dc50 pm50 cd50 ct50 : Value}
    (a50 : PySem.W.nsIn K mainGlobals "_law_stream" = some (some (.ref f50))) (l50 : K.lookup f50 = some ⟨oc50, od50, .func (PySem.W.fnOf "_law_stream" "_law_stream" (defArgs s_L_stream) (defBody s_L_stream) (defScope s_L_stream) .none kV50 dc50 pm50 an50 cd50 ct50), sl50⟩) (c50 : PySem.W.codeIn K cd50 "_law_stream" = true) (k50 : PySem.W.keepIn K (.ref f50) = true)
    {f0 : Addr} {od0 an0 : Option Addr} {sl0 : Array (Option Value)} {oc0 kV0 dc0 pm0 cd0 ct0 : Value}
    (a0 : PySem.W.nsIn K mainGlobals "law" = some (some (.ref f0))) (l0 : K.lookup f0 = some ⟨oc0, od0, .func (PySem.W.fnOf "law" "law" (defArgs s_L_law) (defBody s_L_law) (defScope s_L_law) .none kV0 dc0 pm0 an0 cd0 ct0), sl0⟩) (c0 : PySem.W.codeIn K cd0 "law" = true) (k0 : PySem.W.keepIn K (.ref f0) = true)
    : ∃ fd : FuncData, (∀ (s : Shared) (u : Value), BindsTo s fd ⟨[u], []⟩ [("_law_script", u)]) ∧ ∀ base : Heap, K.In base → base.Ns mainGlobals mg → FnOk P w K mg base CX0 6 fa fd ["_law_script"] (spLaw K mg) := by
  have e := hfa.symm.trans (PySem.W.mg_of X G a0)
  cases e
  exact ⟨PySem.W.fnOf "law" "law" (defArgs s_L_law) (defBody s_L_law) (defScope s_L_law) .none kV0 dc0 pm0 an0 cd0 ct0, fun s u => .of_eq rfl, fun base _ _ => all_ok (txt_mk X G a1 x1 k1 s1 t1 i1 a2 x2 k2 s2 t2 i2 p3 p4 b5 d5 e5 g5 h5 j5 m5 q6 w6 q7 b8 d8 e8 g8 h8 j8 m8 q9 w9 q10 z11 z12 z13 z14 y14 u14 v14 o14_0 o14_1 o14_2 o14_3 o14_4 o14_5 z15 z16 y16 z17 z18 z19 z20 z21 z22 z23 z24 z25 z26 z27 z28 z29 z30 a31 l31 c31 k31 a32 l32 c32 k32 a33 l33 c33 k33 a34 l34 c34 k34 a35 l35 c35 k35 a36 l36 c36 k36 a37 l37 c37 k37 a38 l38 c38 k38 a39 l39 c39 k39 a40 l40 c40 k40 a41 l41 c41 k41 a42 l42 c42 k42 a43 l43 c43 k43 a44 l44 c44 k44 a45 l45 c45 k45 a46 l46 c46 k46 a47 l47 c47 k47 a48 l48 c48 k48 a49 l49 c49 k49 a50 l50 c50 k50) (L2.fun_mk l0 c0 k0)⟩
end NV
open PySem PySem.W PyProof.Rows in
set_option maxRecDepth 100000 in
set_option maxHeartbeats 0 in
theorem PySem.Challenge.cw_narcissus_k10_texts_holds : PySem.Challenge.rw_narcissus_k10_texts.Holds := by
  w_on; o_law; k_head; (case hw => w_witness2)
  k_fill
  refine NV.walk_law (l := PySem.Challenge.rw_narcissus_k10_texts) (k := 6) rfl rfl (by decide) (fun w h Y => PySem.W.kIn_of Y) ?F
  case F =>
    intro w mg fa h KX G hmg
    refine' NV.fin_mk KX G hmg ?a1 ?x1 ?k1 ?s1 ?t1 ?i1 ?a2 ?x2 ?k2 ?s2 ?t2 ?i2 ?p3 ?p4 ?b5 ?d5 ?e5 ?g5 ?h5 ?j5 ?m5 ?q6 ?w6 ?q7 ?b8 ?d8 ?e8 ?g8 ?h8 ?j8 ?m8 ?q9 ?w9 ?q10 ?z11 ?z12 ?z13 ?z14 ?y14 ?u14 ?v14 ?o14_0 ?o14_1 ?o14_2 ?o14_3 ?o14_4 ?o14_5 ?z15 ?z16 ?y16 ?z17 ?z18 ?z19 ?z20 ?z21 ?z22 ?z23 ?z24 ?z25 ?z26 ?z27 ?z28 ?z29 ?z30 ?a31 ?l31 ?c31 ?k31 ?a32 ?l32 ?c32 ?k32 ?a33 ?l33 ?c33 ?k33 ?a34 ?l34 ?c34 ?k34 ?a35 ?l35 ?c35 ?k35 ?a36 ?l36 ?c36 ?k36 ?a37 ?l37 ?c37 ?k37 ?a38 ?l38 ?c38 ?k38 ?a39 ?l39 ?c39 ?k39 ?a40 ?l40 ?c40 ?k40 ?a41 ?l41 ?c41 ?k41 ?a42 ?l42 ?c42 ?k42 ?a43 ?l43 ?c43 ?k43 ?a44 ?l44 ?c44 ?k44 ?a45 ?l45 ?c45 ?k45 ?a46 ?l46 ?c46 ?k46 ?a47 ?l47 ?c47 ?k47 ?a48 ?l48 ?c48 ?k48 ?a49 ?l49 ?c49 ?k49 ?a50 ?l50 ?c50 ?k50 ?a0 ?l0 ?c0 ?k0
    (case a1 => k_is)
    (case x1 => k_exc)
    (case k1 => k_is)
    (case s1 => k_is)
    (case t1 => k_is)
    (case i1 => k_is)
    (case a2 => k_is)
    (case x2 => k_exc)
    (case k2 => k_is)
    (case s2 => k_is)
    (case t2 => k_is)
    (case i2 => k_is)
    (case p3 => first | k_is | rfl)
    (case p4 => first | k_is | rfl)
    (case b5 => k_is)
    (case d5 => k_is)
    (case e5 => k_is)
    (case g5 => k_is)
    (case h5 => k_is)
    (case j5 => k_is)
    (case m5 => k_is)
    (case q6 => first | k_is | rfl)
    (case w6 => first | (intro _; rfl) | (intro q; exact absurd q (by decide)))
    (case q7 => first | k_is | rfl)
    (case b8 => k_is)
    (case d8 => k_is)
    (case e8 => k_is)
    (case g8 => k_is)
    (case h8 => k_is)
    (case j8 => k_is)
    (case m8 => k_is)
    (case q9 => first | k_is | rfl)
    (case w9 => first | (intro _; rfl) | (intro q; exact absurd q (by decide)))
    (case q10 => first | k_is | rfl)
    (case z11 => k_is)
    (case z12 => k_is)
    (case z13 => k_is)
    (case z14 => k_is)
    (case y14 => k_is)
    (case u14 => exact ⟨⟨_, _, rfl, rfl⟩, ⟨_, _, rfl, rfl⟩, ⟨_, _, rfl, rfl⟩, ⟨_, _, rfl, rfl⟩, ⟨_, _, rfl, rfl⟩, ⟨_, _, rfl, rfl⟩, True.intro⟩)
    (case v14 => first | rfl | decide)
    (case o14_0 => k_is)
    (case o14_1 => k_is)
    (case o14_2 => k_is)
    (case o14_3 => k_is)
    (case o14_4 => k_is)
    (case o14_5 => k_is)
    (case z15 => k_is)
    (case z16 => k_is)
    (case y16 => k_is)
    (case z17 => k_is)
    (case z18 => k_is)
    (case z19 => k_is)
    (case z20 => k_is)
    (case z21 => k_is)
    (case z22 => k_is)
    (case z23 => k_is)
    (case z24 => k_is)
    (case z25 => k_is)
    (case z26 => k_is)
    (case z27 => k_is)
    (case z28 => k_is)
    (case z29 => k_is)
    (case z30 => k_is)
    (case a31 => k_is)
    (case l31 => k_is)
    (case c31 => k_is)
    (case k31 => k_is)
    (case a32 => k_is)
    (case l32 => k_is)
    (case c32 => k_is)
    (case k32 => k_is)
    (case a33 => k_is)
    (case l33 => k_is)
    (case c33 => k_is)
    (case k33 => k_is)
    (case a34 => k_is)
    (case l34 => k_is)
    (case c34 => k_is)
    (case k34 => k_is)
    (case a35 => k_is)
    (case l35 => k_is)
    (case c35 => k_is)
    (case k35 => k_is)
    (case a36 => k_is)
    (case l36 => k_is)
    (case c36 => k_is)
    (case k36 => k_is)
    (case a37 => k_is)
    (case l37 => k_is)
    (case c37 => k_is)
    (case k37 => k_is)
    (case a38 => k_is)
    (case l38 => k_is)
    (case c38 => k_is)
    (case k38 => k_is)
    (case a39 => k_is)
    (case l39 => k_is)
    (case c39 => k_is)
    (case k39 => k_is)
    (case a40 => k_is)
    (case l40 => k_is)
    (case c40 => k_is)
    (case k40 => k_is)
    (case a41 => k_is)
    (case l41 => k_is)
    (case c41 => k_is)
    (case k41 => k_is)
    (case a42 => k_is)
    (case l42 => k_is)
    (case c42 => k_is)
    (case k42 => k_is)
    (case a43 => k_is)
    (case l43 => k_is)
    (case c43 => k_is)
    (case k43 => k_is)
    (case a44 => k_is)
    (case l44 => k_is)
    (case c44 => k_is)
    (case k44 => k_is)
    (case a45 => k_is)
    (case l45 => k_is)
    (case c45 => k_is)
    (case k45 => k_is)
    (case a46 => k_is)
    (case l46 => k_is)
    (case c46 => k_is)
    (case k46 => k_is)
    (case a47 => k_is)
    (case l47 => k_is)
    (case c47 => k_is)
    (case k47 => k_is)
    (case a48 => k_is)
    (case l48 => k_is)
    (case c48 => k_is)
    (case k48 => k_is)
    (case a49 => k_is)
    (case l49 => k_is)
    (case c49 => k_is)
    (case k49 => k_is)
    (case a50 => k_is)
    (case l50 => k_is)
    (case c50 => k_is)
    (case k50 => k_is)
    (case a0 => k_is)
    (case l0 => k_is)
    (case c0 => k_is)
    (case k0 => k_is)
#print axioms PySem.Challenge.cw_narcissus_k10_texts_holds

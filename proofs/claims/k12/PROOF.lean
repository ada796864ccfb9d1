import PyProof.Rows.All
import Wide.All
import OpenK.AllK
import Wide.FinOn
import PyProof.EqAt
import PyProof.EqKinds
import PyProof.TupleCall
import PyProof.ListStr
import PyProof.CollectStr
import PyProof.Rows.SortShellAny
import PyProof.Rows.StrStep
import KE.DataMinMax
import HandS.ForMost
import HandS.Exc
import HandS.TryOnly
import HandS.ExcOwn
import HandS.WordsExc
import HandS.ExcValue
import HandS.ExcIs
import HandS.IsInst
import HandS.Evl
import HandS.Conv
import HandS.Zip
import HandS.StrMore
import HandS.Style
import HandS.Flow
import HandS.Small
import KE.KRevSl
import HandS.SortRule
import HandS.ForDict
import HandS.NoneIn
import KE.DataFind
import HandS.Deep
import HandS.SetFor
import HandS.Strs
import PyProof.StrLawsIn
import HandS.Replace
import PyProof.Rows.StrCut
import PySem.Challenge.RW_ringword_k12_book
set_option Elab.async false
set_option linter.all false
set_option maxRecDepth 100000
set_option maxHeartbeats 4000000
/-! U1: universal operators by values, texts as lists of codes, missing rules. -/
namespace RW
open PySem PySem.Spec PyProof.Rows L2

/-- a text of the codes l -/
def ST (l : List Nat) : Str := ⟨l.toArray⟩
theorem ST_list (l : List Nat) : (ST l).cps.toList = l := rfl
theorem ST_len (l : List Nat) : (ST l).length = l.length := rfl
theorem ST_inj {a b : List Nat} : ST a = ST b ↔ a = b := by
  refine ⟨fun e => ?_, fun e => by rw [e]⟩
  have h : (ST a).cps.toList = (ST b).cps.toList := by rw [e]
  exact h
theorem ST_of (z : Str) : ST z.cps.toList = z := by
  obtain ⟨c⟩ := z
  show (⟨c.toList.toArray⟩ : Str) = ⟨c⟩
  rw [Array.toArray_toList]
theorem ST_append (a b : List Nat) : ST a ++ ST b = ST (a ++ b) := by
  show (⟨a.toArray ++ b.toArray⟩ : Str) = ⟨(a ++ b).toArray⟩
  rw [List.append_toArray]
theorem ST_dec (a b : List Nat) : decide (V.str (ST a) = V.str (ST b)) = decide (a = b) := by
  by_cases e : a = b
  · subst e
    rw [decide_eq_true rfl, decide_eq_true rfl]
  · rw [decide_eq_false e, decide_eq_false fun q => e (ST_inj.mp (V.str.inj q))]
/-- n times l -/
def rep (n : Nat) (l : List Nat) : List Nat := (List.replicate n l).flatten
theorem rep_len (n : Nat) (l : List Nat) : (rep n l).length = n * l.length := by
  unfold rep
  rw [List.length_flatten, List.map_replicate, List.sum_replicate_nat]
theorem foldl_app (n : Nat) (l : List Nat) : ∀ acc : List Nat, (List.replicate n l.toArray).foldl (· ++ ·) acc.toArray = (acc ++ rep n l).toArray := by
  induction n with
  | zero => intro acc; simp [rep]
  | succ n ih =>
    intro acc
    rw [List.replicate_succ, List.foldl_cons, List.append_toArray, ih]
    unfold rep
    rw [List.replicate_succ, List.flatten_cons, List.append_assoc]

section
variable {X : Cx}
/-! ### + -/
def uAdd (K : PySem.W.Frag) : R2 := fun x y H Q => match x, y with
  | .int i, .int j => Q (.int (i + j)) H
  | .str a, .str b => a.length + b.length ≤ sizeLine ∧ Q (.str (a ++ b)) H
  | .ref l, .ref b => ∃ xs zs, H l = some (.lst xs) ∧ H b = some (.lst zs) ∧ xs.length + zs.length ≤ sizeLine ∧ ∀ p, H p = none → Q (.ref p) (upd H p (.lst (xs ++ zs)))
  | _, _ => False
theorem op_uAdd : OpR X (binaryOp .Add) (uAdd X.K) := by
  intro pins s σ H x y v u Q I rx ry h
  cases x with
  | int i =>
    cases y with
    | int j => exact op_add pins s σ H _ _ v u Q I rx ry ⟨i, j, rfl, rfl, h⟩
    | _ => exact h.elim
  | str a =>
    cases y with
    | str b => exact op_add_str pins s σ H _ _ v u Q I rx ry ⟨a, b, rfl, rfl, h.1, h.2⟩
    | _ => exact h.elim
  | ref l =>
    cases y with
    | ref b =>
      obtain ⟨xs, zs, h1, h2, h3, h4⟩ := h
      exact op_cat pins s σ H _ _ v u Q I rx ry ⟨l, b, xs, zs, rfl, rfl, h1, h2, h3, h4⟩
    | _ => exact h.elim
  | _ => exact h.elim
/-! ### - // % ** -/
def uSub : R2 := fun x y H Q => match x, y with
  | .int i, .int j => Q (.int (i - j)) H
  | _, _ => False
theorem op_uSub : OpR X (binaryOp .Sub) uSub := by
  intro pins s σ H x y v u Q I rx ry h
  cases x with
  | int i =>
    cases y with
    | int j => exact op_sub pins s σ H _ _ v u Q I rx ry ⟨i, j, rfl, rfl, h⟩
    | _ => exact h.elim
  | _ => exact h.elim
def uDiv : R2 := fun x y H Q => match x, y with
  | .int i, .int j => CDiv i j ∧ Q (.int (i / j)) H
  | _, _ => False
theorem op_uDiv : OpR X (binaryOp .FloorDiv) uDiv := by
  intro pins s σ H x y v u Q I rx ry h
  cases x with
  | int i =>
    cases y with
    | int j => exact op_fdiv pins s σ H _ _ v u Q I rx ry ⟨i, j, rfl, rfl, h.1, h.2⟩
    | _ => exact h.elim
  | _ => exact h.elim
def uMod : R2 := fun x y H Q => match x, y with
  | .int i, .int j => 0 < j ∧ Q (.int (i % j)) H
  | _, _ => False
theorem op_uMod : OpR X (binaryOp .Mod) uMod := by
  intro pins s σ H x y v u Q I rx ry h
  cases x with
  | int i =>
    cases y with
    | int j => exact op_mod pins s σ H _ _ v u Q I rx ry ⟨i, j, rfl, rfl, h.1, h.2⟩
    | _ => exact h.elim
  | _ => exact h.elim
def uPow : R2 := fun x y H Q => match x, y with
  | .int i, .int j => CPow i j ∧ Q (.int (i ^ j.toNat)) H
  | _, _ => False
theorem op_uPow : OpR X (binaryOp .Pow) uPow := by
  intro pins s σ H x y v u Q I rx ry h
  cases x with
  | int i =>
    cases y with
    | int j => exact op_pow pins s σ H _ _ v u Q I rx ry ⟨i, j, rfl, rfl, h.1, h.2⟩
    | _ => exact h.elim
  | _ => exact h.elim
/-! ### * -/
theorem op_rep_str : OpR X (binaryOp .Mult) (fun x y H Q => ∃ (l : List Nat) (n : Int), x = .str (ST l) ∧ y = .int n ∧ 0 ≤ n ∧ n < 2 ^ 62 ∧ l.length * n.toNat ≤ sizeLine ∧ Q (.str (ST (rep n.toNat l))) H) := by
  intro pins s σ H x y v u Q I rx ry h
  obtain ⟨l, n, rfl, rfl, h0, h1, hz, q⟩ := h
  obtain ⟨t, rfl⟩ := rx
  obtain ⟨t', rfl⟩ := ry
  have hs : sizeLine = 16777216 := sizeLine_eq
  by_cases hn : n < 1
  · have e : n = 0 := by omega
    subst e
    exact P.mul_str_none (by decide) (by decide) ⟨.str (ST (rep 0 l)), H, I.tok _, ⟨s.toks, rfl⟩, q⟩
  · refine P.mul_str ?_ (fun _ _ => ?_) (fun _ _ => ?_) ?_
    · rw [decide_eq_false (by omega), decide_eq_false (by omega)]
      rfl
    · have hp : (0 : Int) < n := by omega
      have hm : (l.length : Int) * n ≤ 16777216 := by
        have hz' : l.length * n.toNat ≤ 16777216 := by rw [← hs]; exact hz
        have hz2 : ((l.length * n.toNat : Nat) : Int) ≤ ((16777216 : Nat) : Int) := Int.ofNat_le.mpr hz'
        rw [Int.natCast_mul, Int.toNat_of_nonneg h0] at hz2
        exact hz2
      have h2 : (l.length : Int) ≤ (2 ^ 63 - 1) / n := (Int.le_ediv_iff_mul_le hp).mpr (by omega)
      show ¬ ((l.length : Int) > (2 ^ 63 - 1) / n)
      omega
    · unfold Builtin.Str.tooLong
      exact decide_eq_false (by rw [ST_len]; omega)
    · rw [if_neg hn]
      by_cases c : (n == 1 || (ST l).length == 0) = true
      · rw [if_pos c]
        refine ⟨.str (ST (rep n.toNat l)), H, I, ⟨t, ?_⟩, q⟩
        have e : rep n.toNat l = l := by
          rw [Bool.or_eq_true, beq_iff_eq, beq_iff_eq, ST_len] at c
          rcases c with c | c
          · subst c
            unfold rep
            simp
          · have e2 : l = [] := List.length_eq_zero_iff.mp c
            subst e2
            unfold rep
            simp
        rw [e]
      · rw [if_neg c]
        have e : (⟨(List.replicate n.toNat (ST l).cps).foldl (· ++ ·) #[]⟩ : Str) = ST (rep n.toNat l) := by
          unfold ST
          have := foldl_app n.toNat l []
          rw [List.nil_append] at this
          rw [this]
        rw [e]
        refine ⟨by rw [ST_len, rep_len, Nat.mul_comm]; exact hz, .str (ST (rep n.toNat l)), H, I.tok _, ⟨_, rfl⟩, q⟩
def uMul : R2 := fun x y H Q => match x, y with
  | .int i, .int j => CMul i j ∧ Q (.int (i * j)) H
  | .str a, .int n => 0 ≤ n ∧ n < 2 ^ 62 ∧ a.cps.toList.length * n.toNat ≤ sizeLine ∧ Q (.str (ST (rep n.toNat a.cps.toList))) H
  | .ref l, .int k => ∃ xs, H l = some (.lst xs) ∧ -(2 ^ 63) ≤ k ∧ k < 2 ^ 63 ∧ xs.length * k.toNat ≤ sizeLine ∧ ∀ p, H p = none → Q (.ref p) (upd H p (.lst (List.replicate k.toNat xs).flatten))
  | _, _ => False
theorem op_uMul : OpR X (binaryOp .Mult) uMul := by
  intro pins s σ H x y v u Q I rx ry h
  cases x with
  | int i =>
    cases y with
    | int j => exact op_mul pins s σ H _ _ v u Q I rx ry ⟨i, j, rfl, rfl, h.1, h.2⟩
    | _ => exact h.elim
  | str a =>
    cases y with
    | int n => exact op_rep_str pins s σ H _ _ v u Q I rx ry ⟨a.cps.toList, n, by rw [ST_of], rfl, h.1, h.2.1, h.2.2.1, h.2.2.2⟩
    | _ => exact h.elim
  | ref l =>
    cases y with
    | int k =>
      obtain ⟨xs, h1, h2, h3, h4, h5⟩ := h
      exact op_rep pins s σ H _ _ v u Q I rx ry ⟨l, k, xs, rfl, rfl, h1, h2, h3, h4, h5⟩
    | _ => exact h.elim
  | _ => exact h.elim
/-! ### comparisons -/
def uLt : R2 := fun x y H Q => match x, y with
  | .int i, .int j => Q (.bl (decide (i < j))) H
  | .str a, .str b => Q (.bl (decide (a.cps.toList < b.cps.toList))) H
  | _, _ => False
theorem op_uLt : OpR X (compareOp .Lt) uLt := by
  intro pins s σ H x y v u Q I rx ry h
  cases x with
  | int i =>
    cases y with
    | int j => exact op_lt pins s σ H _ _ v u Q I rx ry ⟨i, j, rfl, rfl, h⟩
    | _ => exact h.elim
  | str a =>
    cases y with
    | str b => exact op_lt_str pins s σ H _ _ v u Q I rx ry ⟨a, b, rfl, rfl, h⟩
    | _ => exact h.elim
  | _ => exact h.elim
def uLe : R2 := fun x y H Q => match x, y with
  | .int i, .int j => Q (.bl (decide (i ≤ j))) H
  | .str a, .str b => Q (.bl (!decide (b.cps.toList < a.cps.toList))) H
  | _, _ => False
theorem op_uLe : OpR X (compareOp .LtE) uLe := by
  intro pins s σ H x y v u Q I rx ry h
  cases x with
  | int i =>
    cases y with
    | int j => exact op_le pins s σ H _ _ v u Q I rx ry ⟨i, j, rfl, rfl, h⟩
    | _ => exact h.elim
  | str a =>
    cases y with
    | str b => exact op_le_str pins s σ H _ _ v u Q I rx ry ⟨a, b, rfl, rfl, h⟩
    | _ => exact h.elim
  | _ => exact h.elim
def uGt : R2 := fun x y H Q => match x, y with
  | .int i, .int j => Q (.bl (decide (j < i))) H
  | .str a, .str b => Q (.bl (decide (b.cps.toList < a.cps.toList))) H
  | _, _ => False
theorem op_uGt : OpR X (compareOp .Gt) uGt := by
  intro pins s σ H x y v u Q I rx ry h
  cases x with
  | int i =>
    cases y with
    | int j => exact op_gt pins s σ H _ _ v u Q I rx ry ⟨i, j, rfl, rfl, h⟩
    | _ => exact h.elim
  | str a =>
    cases y with
    | str b => exact op_gt_str pins s σ H _ _ v u Q I rx ry ⟨a, b, rfl, rfl, h⟩
    | _ => exact h.elim
  | _ => exact h.elim
def uGe : R2 := fun x y H Q => match x, y with
  | .int i, .int j => Q (.bl (decide (j ≤ i))) H
  | .str a, .str b => Q (.bl (!decide (a.cps.toList < b.cps.toList))) H
  | _, _ => False
theorem op_uGe : OpR X (compareOp .GtE) uGe := by
  intro pins s σ H x y v u Q I rx ry h
  cases x with
  | int i =>
    cases y with
    | int j => exact op_ge pins s σ H _ _ v u Q I rx ry ⟨i, j, rfl, rfl, h⟩
    | _ => exact h.elim
  | str a =>
    cases y with
    | str b => exact op_ge_str pins s σ H _ _ v u Q I rx ry ⟨a, b, rfl, rfl, h⟩
    | _ => exact h.elim
  | _ => exact h.elim
/-- ==, != : scalars, or data -/
def uEq (K : PySem.W.Frag) : R2 := fun x y H Q => rEq x y H Q ∨ rEqD K x y H Q
theorem op_uEq (hu : X.A.units + 64 < cLine) : OpR X (compareOp .Eq) (uEq X.K) := OpR.or op_eq (op_eqD hu)
def uNe (K : PySem.W.Frag) : R2 := fun x y H Q => rNe x y H Q ∨ rNeD K x y H Q
theorem op_uNe (hu : X.A.units + 64 < cLine) : OpR X (compareOp .NotEq) (uNe X.K) := OpR.or op_ne (op_neD hu)
/-- is, is not: None or bools -/
def uIs : R2 := fun x y H Q => match y with
  | .non => Q (.bl (decide (x = .non))) H
  | .bl b => match x with
    | .bl a => Q (.bl (decide (a = b))) H
    | _ => False
  | _ => False
theorem op_uIs : OpR X (compareOp .Is) uIs := by
  intro pins s σ H x y v u Q I rx ry h
  cases y with
  | non => exact op_isN pins s σ H _ _ v u Q I rx ry ⟨rfl, h⟩
  | bl b =>
    cases x with
    | bl a => exact op_isBl pins s σ H _ _ v u Q I rx ry ⟨a, b, rfl, rfl, h⟩
    | _ => exact h.elim
  | _ => exact h.elim
def uIsNot : R2 := fun x y H Q => match y with
  | .non => Q (.bl (!decide (x = .non))) H
  | .bl b => match x with
    | .bl a => Q (.bl (!decide (a = b))) H
    | _ => False
  | _ => False
theorem op_uIsNot : OpR X (compareOp .IsNot) uIsNot := by
  intro pins s σ H x y v u Q I rx ry h
  cases y with
  | non => exact op_notN pins s σ H _ _ v u Q I rx ry ⟨rfl, h⟩
  | bl b =>
    cases x with
    | bl a => exact op_notBl pins s σ H _ _ v u Q I rx ry ⟨a, b, rfl, rfl, h⟩
    | _ => exact h.elim
  | _ => exact h.elim
/-- in, not in: one sign in a text; a flat thing in a list or tuple -/
def uIn (K : PySem.W.Frag) : R2 := fun x y H Q => (∃ (c : Nat) (z : Str), x = .str ⟨#[c]⟩ ∧ y = .str z ∧ Q (.bl (decide (c ∈ z.cps.toList))) H) ∨ rIn K false x y H Q
theorem op_uIn : OpR X (compareOp .In) (uIn X.K) := OpR.or op_in_sign op_in_seq
def uNotIn (K : PySem.W.Frag) : R2 := fun x y H Q => (∃ (c : Nat) (z : Str), x = .str ⟨#[c]⟩ ∧ y = .str z ∧ Q (.bl (!decide (c ∈ z.cps.toList))) H) ∨ rIn K true x y H Q
theorem op_uNotIn : OpR X (compareOp .NotIn) (uNotIn X.K) := OpR.or op_notIn_sign op_notIn_seq
/-! ### x op= e -/
theorem ip_mul : PIp X .Mult (fun x y H Q => ∃ i j, x = .int i ∧ y = .int j ∧ CMul i j ∧ Q (.int (i * j)) H) := by
  intro pins s σ H x y v u Q I r1 r2 h
  obtain ⟨i, j, e1, e2, hc, q⟩ := h
  exact iop_mul pins s σ H x y v u Q I r1 r2 ⟨i, j, e1, e2, hc, q⟩
end
end RW

/-! U2: sorted, min, [::-1], list of texts. -/
namespace PyProof.Rows
open PySem
section
variable {prog : Program} {w : World} {A : Around} {E : Value → Shared → Prop} {s : Shared}
/-- sorted(text) -/
theorem rw_sorted_text {x : Str} {t : Tok} {Q : Value → Shared → Prop} (hh : A.handled = none) (hn : x.cps.size ≤ sizeLine)
    (h : ∀ (s' : Shared) (vs : List Value) (out : Array Value), (∀ b o, s.heap.get? b = some o → s'.heap.get? b = some o) → s'.gens = s.gens → s'.drawn = s.drawn → s'.os = s.os → ItemsOf (SignAt x) vs.toArray x.cps.size → out.toList.Perm vs →
      (∀ ss, StrsAre vs ss → ∃ ss', StrsAre out.toList ss' ∧ ss'.Perm ss ∧ sortedS ss' = true) → Q (.ref s'.heap.objs.size) { s' with heap := sortedHeap (s'.heap.push (seqObj "list" vs.toArray 0)) s'.heap.objs.size vs out }) :
    wpAny (model prog w) A (call (.builtin "sorted") [.str x t]) Q E s := by
  refine Calls.call_function_entry kind_sorted plain_sorted entry_sorted (args_sorted1 _) ?_
  unfold Builtin.«sorted»
  refine wpAny_bind (m := checkCount "sorted" 1 1 _) (wpAny_pure ?_)
  have hh1 : A.in1.handled = none := hh
  refine wpAny_bind (wpAny_collect_str hh1 x t (fun s' acc k g1 g2 g3 hi => ?_) hn)
  have hlen : acc.toList.length ≤ sizeLine := by rw [Array.length_toList, hi.1]; exact hn
  refine wpAny_bind (wpAny_newList ?_ hlen)
  have hoL : (s'.heap.push (seqObj "list" acc.toList.toArray 0)).get? s'.heap.objs.size = some (seqObj "list" acc.toList.toArray 0) := Heap.get?_push_size _ rfl
  -- the signs are texts
  have hS : ∀ (l : List Value) (i : Nat), (∀ j v, l[j]? = some v → SignAt x (i + j) v) → ∃ ss, StrsAre l ss := by
    intro l
    induction l with
    | nil => intro i _; exact ⟨[], .nil⟩
    | cons v r ih =>
      intro i hv
      obtain ⟨c, u, _, e⟩ := hv 0 v rfl
      subst e
      obtain ⟨ss, hs⟩ := ih (i + 1) fun j w hw => by
        have := hv (j + 1) w (by simpa using hw)
        rwa [show i + (j + 1) = i + 1 + j by omega] at this
      exact ⟨_, .cons _ _ hs⟩
  obtain ⟨ss, hss⟩ := hS acc.toList 0 fun j v hv => by
    have := hi.2 j v (by simpa using hv)
    rwa [Nat.zero_add]
  show wpAny _ _ _ _ _ { s' with heap := s'.heap.push (seqObj "list" acc.toList.toArray 0) }
  refine wpAny_bind (wpAny_holding (wpAny_call_entry slot_list_sort ⟨_, hoL, rfl⟩ entry_list_sort (list_sort_treeKAny strKind_oneLt hoL hss.keysOf (fun v₁ v₂ rest e => keyKind_strs (by rw [← e]; exact hss)) hlen fun st' a1 a2 => ⟨_, rfl, ?_⟩) (args_list_sort _)))
  refine wpAny_pure ⟨_, rfl, ?_⟩
  obtain ⟨ss1, b1, b2, b3⟩ := sorted_out_str hss a1 a2
  refine h s' acc.toList ((arrOf st').map (·.2)) k g1 g2 g3 (by rw [Array.toArray_toList]; exact hi) ?_ fun ss2 h2 => ?_
  · have p1 : ((arrOf st').map (·.2)).toList.Perm ((pairsOf acc.toList).map (·.2)).toList := by
      rw [Array.toList_map, Array.toList_map]
      exact List.Perm.map _ a1.toList
    refine p1.trans ?_
    rw [Array.toList_map, pairsOf_toList]
    have e : (acc.toList.zip acc.toList).map (·.2) = acc.toList := by
      have := List.map_snd_zip (l₁ := acc.toList) (l₂ := acc.toList) (Nat.le_refl _)
      exact this
    rw [e]
  · obtain ⟨ss3, c1, c2, c3⟩ := sorted_out_str h2 a1 a2
    exact ⟨ss3, c1, c2, c3⟩
end
end PyProof.Rows

namespace RW
open PySem PySem.Spec PyProof.Rows L2
/-- the texts of one sign -/
def signs (l : List Nat) : List (List Nat) := l.map fun c => [c]
/-- rising by code points, none less than one ahead of it -/
def Asc (ls : List (List Nat)) : Prop := ls.Pairwise fun a b => ¬ b < a
theorem asc_of : ∀ ss : List Str, sortedS ss = true → Asc (ss.map (·.cps.toList))
  | [], _ => List.Pairwise.nil
  | x :: r, h => by
    have go : ∀ (r : List Str) (p : Str), risingS p r = true → (∀ y ∈ r, ¬ y.cps.toList < p.cps.toList) ∧ Asc (r.map (·.cps.toList)) := by
      intro r
      induction r with
      | nil => intro p _; exact ⟨fun _ h => absurd h (by simp), List.Pairwise.nil⟩
      | cons y r ih =>
        intro p h
        unfold risingS at h
        rw [Bool.and_eq_true, Bool.not_eq_true', ltCps_eq, decide_eq_false_iff_not] at h
        obtain ⟨h1, h2⟩ := h
        obtain ⟨i1, i2⟩ := ih y h2
        refine ⟨fun z hz => ?_, ?_⟩
        · rcases List.mem_cons.mp hz with e | hz
          · rw [e]; exact h1
          · intro hlt
            have h3 : ¬ z.cps.toList < y.cps.toList := i1 z hz
            have h4 : y.cps.toList ≤ z.cps.toList := List.not_lt.mp h3
            exact h1 (List.lt_of_le_of_lt h4 hlt)
        · rw [List.map_cons]
          refine List.Pairwise.cons (fun z hz => ?_) i2
          obtain ⟨z', hz', rfl⟩ := List.mem_map.mp hz
          exact i1 z' hz'
    rw [List.map_cons]
    obtain ⟨h1, h2⟩ := go r x h
    refine List.Pairwise.cons (fun z hz => ?_) h2
    obtain ⟨z', hz', rfl⟩ := List.mem_map.mp hz
    exact h1 z' hz'
/-- the texts' lists -/
def tx (ls : List (List Nat)) : List V := ls.map fun l => V.str (ST l)
theorem tx_of (ss : List Str) : ss.map V.str = tx (ss.map (·.cps.toList)) := by
  unfold tx
  rw [List.map_map]
  exact List.map_congr_left fun z _ => by show V.str z = V.str (ST z.cps.toList); rw [ST_of]
theorem tx_str (ls : List (List Nat)) : tx ls = (ls.map ST).map V.str := by
  unfold tx
  rw [List.map_map]
  rfl
theorem tx_len (ls : List (List Nat)) : (tx ls).length = ls.length := List.length_map ..
theorem tx_cps (ls : List (List Nat)) : (ls.map ST).map (·.cps.toList) = ls := by
  rw [List.map_map]
  exact (List.map_congr_left fun l _ => rfl).trans (List.map_id ls)
section
variable {X : Cx}
/-- sorted(list of texts), sorted(text): any length -/
def rSortedTx (K : PySem.W.Frag) : List V → Hp → VK → Prop := fun vs H Q => ∃ x, vs = [x] ∧
  ((∃ a ls, x = .ref a ∧ SqL K H a (tx ls) ∧ ∀ ys p, ys.Perm ls → Asc ys → H p = none → Q (.ref p) (upd H p (.lst (tx ys)))) ∨
   (∃ l, x = .str (ST l) ∧ l.length ≤ sizeLine ∧ ∀ ys p, ys.Perm (signs l) → Asc ys → H p = none → Q (.ref p) (upd H p (.lst (tx ys)))))
theorem signs_of {x : Str} : ∀ (vs : List Value) (ss : List Str) (i : Nat), StrsAre vs ss → (∀ j v, vs[j]? = some v → SignAt x (i + j) v) → vs.length + i = x.cps.size → ss.map (·.cps.toList) = signs (x.cps.toList.drop i)
  | _, _, i, .nil, _, hl => by
    rw [List.drop_of_length_le (by rw [Array.length_toList]; simp at hl; omega)]
    rfl
  | _, _, i, .cons z t (vs := vs) (ys := ss) r, hv, hl => by
    obtain ⟨c, u, hc, e⟩ := hv 0 _ rfl
    injection e with e1 _
    subst e1
    have hlt : i < x.cps.size := by rw [List.length_cons] at hl; omega
    have hd : x.cps.toList.drop i = c :: x.cps.toList.drop (i + 1) := by
      rw [List.drop_eq_getElem_cons (by rw [Array.length_toList]; exact hlt)]
      congr 1
      rw [Nat.add_zero, Array.getElem?_eq_getElem hlt] at hc
      rw [Array.getElem_toList]
      exact Option.some.inj hc
    rw [hd, List.map_cons]
    show _ :: _ = [c] :: signs _
    congr 1
    exact signs_of vs ss (i + 1) r (fun j v hj => by
      have := hv (j + 1) v (by simpa using hj)
      rwa [show i + (j + 1) = i + 1 + j by omega] at this) (by rw [List.length_cons] at hl; omega)
theorem cr_sortedTx (hc : X.calm = true) : CallR X (.builtin "sorted") (rSortedTx X.K) := by
  intro pins s σ H vs us Q I r h
  obtain ⟨x, rfl, h⟩ := h
  rcases h with ⟨a, ls, rfl, hs, q⟩ | ⟨l, rfl, hz, q⟩
  · rw [tx_str] at hs
    obtain ⟨its, rv, hl, hz⟩ := I.list hs
    rw [Vals.ref1 r]
    have hlen0 := rv.length
    refine PyProof.Rows.sorted_strsAny hl.isList rv.strs (by rw [← hlen0]; exact hz) fun out ys h1 h2 h3 => ?_
    obtain ⟨ep, he'⟩ := PyProof.Rows.sortedAll_at s.heap its out
    have hlen : (ys.map V.str).length ≤ sizeLine := by
      rw [List.length_map, h2.length_eq, List.length_map]
      rw [List.length_map, List.length_map] at hz
      exact hz
    have hq := q (ys.map (·.cps.toList)) (s.heap.objs.size + 1) (by have := h2.map (·.cps.toList); rwa [tx_cps] at this) (asc_of ys h3) (I.hok.fresh (Nat.le_succ _))
    rw [← tx_of] at hq
    exact ⟨.ref _, upd H (s.heap.objs.size + 1) (.lst (ys.map V.str)), I.laid (t' := s.toks) (fun _ _ => PyProof.Rows.sortedAll_old) (Nat.le_succ _) ⟨hlen, out.toList, ep, vals_of_strs h1, he'⟩, rfl, hq⟩
  · obtain ⟨u, rfl, t, rfl⟩ := vals1 r
    refine rw_sorted_text (I.ok.hd hc) hz fun s' vs out k g1 g2 g3 hi hp hss => ?_
    have I1 : Inv X pins σ H s' := by
      have J := I.kept (h' := s'.heap) (t' := s'.toks) k
      obtain ⟨h', g', d', t', o'⟩ := s'
      have e1 : g' = s.gens := g1
      have e2 : d' = s.drawn := g2
      have e3 : o' = s.os := g3
      subst e1 e2 e3
      exact J
    have hS : ∀ (l0 : List Nat) (l : List Value) (i : Nat), (∀ j v, l[j]? = some v → SignAt (ST l0) (i + j) v) → ∃ ss, StrsAre l ss := by
      intro l0 l
      induction l with
      | nil => intro i _; exact ⟨[], .nil⟩
      | cons v r ih =>
        intro i hv
        obtain ⟨c, u, _, e⟩ := hv 0 v rfl
        subst e
        obtain ⟨ss, hs⟩ := ih (i + 1) fun j w hw => by
          have := hv (j + 1) w (by simpa using hw)
          rwa [show i + (j + 1) = i + 1 + j by omega] at this
        exact ⟨_, .cons _ _ hs⟩
    have hv0 : ∀ j v, vs[j]? = some v → SignAt (ST l) (0 + j) v := fun j v hv => by
      rw [Nat.zero_add]
      exact hi.2 j v (by simpa using hv)
    obtain ⟨ss, hsa⟩ : ∃ ss, StrsAre vs ss := hS l vs 0 hv0
    have hvl : vs.length = l.length := by
      have := hi.1
      rw [List.size_toArray] at this
      exact this
    have esg : ss.map (·.cps.toList) = signs l := by
      have := signs_of (x := ST l) vs ss 0 hsa hv0 (by rw [Nat.add_zero]; exact hvl)
      rw [this, List.drop_zero, ST_list]
    obtain ⟨ys, c1, c2, c3⟩ := hss ss hsa
    have hoL : (s'.heap.push (PyProof.Rows.seqObj "list" vs.toArray 0)).get? s'.heap.objs.size = some (PyProof.Rows.seqObj "list" vs.toArray 0) := Heap.get?_push_size _ rfl
    obtain ⟨ep, he'⟩ := PyProof.Rows.sortedHeap_at (vs := vs) (out := out) hoL
    have hyl : ys.length = l.length := by
      have e1 := c2.length_eq
      have e2 := hsa.length
      omega
    have hlen : (ys.map V.str).length ≤ sizeLine := by rw [List.length_map, hyl]; exact hz
    have hq := q (ys.map (·.cps.toList)) s'.heap.objs.size (by rw [← esg]; exact c2.map _) (asc_of ys c3) (I1.hok.fresh (Nat.le_refl _))
    rw [← tx_of] at hq
    refine ⟨.ref _, upd H s'.heap.objs.size (.lst (ys.map V.str)), I1.laid (t' := s'.toks) (fun b o e => ?_) (Nat.le_refl _) ⟨hlen, out.toList, ep, vals_of_strs c1, by rw [Array.toArray_toList]; exact he'⟩, rfl, hq⟩
    rw [PyProof.Rows.sortedHeap_old (Nat.ne_of_lt (Heap.lt_size e)) (by rw [Heap.size_push]; exact Nat.lt_succ_of_lt (Heap.lt_size e))]
    exact Heap.get?_push_of_some _ e
end
end RW

/-! U3: min of texts, [::-1], list(text), constants. -/
namespace RW
open PySem PySem.Spec PyProof.Rows L2
section
variable {X : Cx}
theorem alike_strs (ss : List Str) : PySem.W.AlikeAll (ss.map PyData.str) := by
  refine ⟨fun x hx y hy => ?_, fun x hx => ?_⟩
  · obtain ⟨a, _, rfl⟩ := List.mem_map.mp hx
    obtain ⟨b, _, rfl⟩ := List.mem_map.mp hy
    rfl
  · obtain ⟨a, _, rfl⟩ := List.mem_map.mp hx
    intro z
    cases z
theorem depth_strs : ∀ ss : List Str, PyData.depthAll (ss.map PyData.str) = 0
  | [] => rfl
  | x :: r => by
    show max (PyData.depth (.str x)) (PyData.depthAll (r.map PyData.str)) = 0
    rw [depth_strs r]
    rfl
theorem minD_strs : ∀ (ss : List Str) (x : Str), ∃ m, PySem.W.minD (.str x) (ss.map .str) = .str m ∧ (m = x ∨ m ∈ ss) ∧ ¬ x.cps.toList < m.cps.toList ∧ ∀ y ∈ ss, ¬ y.cps.toList < m.cps.toList
  | [], x => ⟨x, rfl, .inl rfl, List.lt_irrefl _, fun _ h => absurd h (by simp)⟩
  | z :: r, x => by
    show ∃ m, PySem.W.minD (if PySem.W.dataLt (.str z) (.str x) then .str z else .str x) (r.map .str) = .str m ∧ _
    rw [PySem.W.dataLt_str]
    by_cases c : z.cps.toList < x.cps.toList
    · rw [if_pos (decide_eq_true c)]
      obtain ⟨m, h1, h2, h3, h4⟩ := minD_strs r z
      refine ⟨m, h1, .inr ?_, fun h => h3 (List.lt_trans c h), fun y hy => ?_⟩
      · rcases h2 with rfl | h2
        · exact List.mem_cons_self
        · exact List.mem_cons_of_mem _ h2
      · rcases List.mem_cons.mp hy with rfl | hy
        · exact h3
        · exact h4 y hy
    · rw [if_neg (by rw [decide_eq_true_eq]; exact c)]
      obtain ⟨m, h1, h2, h3, h4⟩ := minD_strs r x
      refine ⟨m, h1, ?_, h3, fun y hy => ?_⟩
      · rcases h2 with rfl | h2
        · exact .inl rfl
        · exact .inr (List.mem_cons_of_mem _ h2)
      · rcases List.mem_cons.mp hy with rfl | hy
        · intro h
          have h5 : x.cps.toList ≤ y.cps.toList := List.not_lt.mp c
          exact h3 (List.lt_of_le_of_lt h5 h)
        · exact h4 y hy
theorem reads_strs {h : Heap} : ∀ {us : List Value} {ss : List Str}, StrsAre us ss → ∃ as, ReadsAll h us (ss.map PyData.str) as
  | _, _, .nil => ⟨_, .nil⟩
  | _, _, .cons y t r => by
    obtain ⟨as, q⟩ := reads_strs (h := h) r
    exact ⟨_, .cons (.str y t) q⟩
/-- min(list of texts), min(a, b) of ints -/
def rMinU (K : PySem.W.Frag) : List V → Hp → VK → Prop := fun vs H Q =>
  (∃ a ls, vs = [.ref a] ∧ SqL K H a (tx ls) ∧ ls ≠ [] ∧ ∀ m, m ∈ ls → (∀ y ∈ ls, ¬ y < m) → Q (.str (ST m)) H) ∨
  (∃ i j, vs = [.int i, .int j] ∧ Q (.int (if j < i then j else i)) H)
theorem cr_minU (hc : X.calm = true) (hr : X.A.units + 64 < cLine) : CallR X (.builtin "min") (rMinU X.K) := by
  intro pins s σ H vs us Q I r h
  rcases h with ⟨a, ls, rfl, hs, h0, q⟩ | h
  · rw [tx_str] at hs
    obtain ⟨its, rv, hl, hz⟩ := I.list hs
    rw [Vals.ref1 r]
    cases ls with
    | nil => exact absurd rfl h0
    | cons l ls =>
      obtain ⟨as, hr2⟩ := reads_strs (h := s.heap) rv.strs
      rw [List.map_cons, List.map_cons] at hr2
      have hal := alike_strs (ST l :: ls.map ST)
      have hdp := depth_strs (ST l :: ls.map ST)
      rw [List.map_cons] at hal hdp
      refine PySem.W.min_list_data (vs := its.toArray) (I.ok.hd hc) hl.isList (by rw [List.toList_toArray]; exact hr2) hal (by rw [hdp]; omega) fun i v h' tk bs hv hrd k => ?_
      obtain ⟨m, e1, e2, e3, e4⟩ := minD_strs (ls.map ST) (ST l)
      rw [e1] at hrd
      have I1 : Inv X pins σ H { s with heap := h', toks := tk } := I.kept k
      have hm : m.cps.toList ∈ l :: ls := by
        rcases e2 with rfl | e2
        · exact List.mem_cons_self
        · obtain ⟨l', hl', rfl⟩ := List.mem_map.mp e2
          exact List.mem_cons_of_mem _ hl'
      have hq := q m.cps.toList hm fun y hy => by
        rcases List.mem_cons.mp hy with rfl | hy
        · exact e3
        · exact e4 (ST y) (List.mem_map.mpr ⟨y, hy, rfl⟩)
      rw [ST_of] at hq
      cases hrd with
      | str x t => exact ⟨.str m, H, I1, ⟨_, rfl⟩, hq⟩
  · exact call_min2 hc pins s σ H vs us Q I r h

/-! ### [::-1] -/
theorem rev_pick (z : Str) (h : z.length ≤ sizeLine) : ((Builtin.Str.strSliceIndices none none (-1) z.length).filterMap (z.cps[·]?)).toArray = z.cps.toList.reverse.toArray := by
  have hb := PySem.W.krv_pick
  unfold Builtin.Str.strSliceIndices
  show ((sliceRange ((z.length : Int) - 1) (-1) (-1)).filterMap (z.cps[·]?)).toArray = _
  rw [PySem.W.krv_sliceRange, PySem.W.krv_range, List.filterMap_reverse]
  rw [show z.length = z.cps.size from rfl, PySem.W.krv_all]
/-- e[::-1]: a text, a list -/
def tRevU (K : PySem.W.Frag) (te : TE) : TE := fun σ H Q => te σ H fun x H1 =>
  (∃ l, x = .str (ST l) ∧ l.length ≤ sizeLine ∧ Q (.str (ST l.reverse)) H1) ∨ (∃ a xs, x = .ref a ∧ SqL K H1 a xs ∧ ∀ p, H1 p = none → Q (.ref p) (upd H1 p (.lst xs.reverse)))
theorem pe_revU {e : Expr} {te : TE} {k : Nat} {p1 p2 p3 pos : Pos} (he : PE X e te) : PE X (.Subscript e (.Slice none none (some (.UnaryOp .USub (.Constant (.int 1) k p1) p2)) p3) pos) (tRevU X.K te) := by
  refine ⟨fun pins s σ H Q I h => ?_⟩
  refine Subscript_ (thn (he.run pins s σ H _ I h) fun v s1 ⟨x, H1, I1, r1, q1⟩ => ?_)
  have hst : PO X (some (.UnaryOp .USub (.Constant (.int 1) k p1) p2)) (tPart (tUn (rU fun i => .int (-i)) (tC (.int 1)))) := po_some (pe_un un_neg pe_int)
  refine wpAny_Slice (thn (po_none.run pins s1 σ H1 (fun o H2 => o = none ∧ H2 = H1) I1 ⟨rfl, rfl⟩) fun vl s2 ⟨l, H2, I2, pl, el, e2⟩ => ?_)
  subst el e2
  refine thn (po_none.run pins s2 σ H2 (fun o H3 => o = none ∧ H3 = H2) I2 ⟨rfl, rfl⟩) fun vu s3 ⟨u, H3, I3, pu, eu, e3⟩ => ?_
  subst eu e3
  refine thn (hst.run pins s3 σ H3 (fun o H4 => o = some (-1) ∧ H4 = H3) I3 ⟨1, rfl, -1, rfl, rfl, rfl⟩) fun vs s4 ⟨o, H4, I4, ps, eo, e4⟩ => ?_
  subst eo e4
  have I5 : Inv X pins σ H4 { s4 with heap := s4.heap.push { cls := .type "slice", data := .fields #[vl, vu, vs] } } := I4.kept (t' := s4.toks) fun b ob q => Heap.get?_push_of_some _ q
  rcases q1 with ⟨l, ex, hz, q⟩ | ⟨a, xs, ex, hx, q⟩
  · subst ex
    obtain ⟨t, rfl⟩ := r1
    show wpAny (model X.prog X.w) X.A (subscriptTail e (.Slice none none (some (.UnaryOp .USub (.Constant (.int 1) k p1) p2)) p3) (.str (ST l) t) (.ref s4.heap.objs.size)) (EP X pins σ Q) X.xe { s4 with heap := s4.heap.push { cls := .type "slice", data := .fields #[vl, vu, vs] } }
    refine tail_any (ops := [.ref s4.heap.objs.size, .str (ST l) t]) (typeIs_str _ _ _) (F.slot_str_getitem.lookup) ?_ (by with_unfolding_all rfl)
    obtain ⟨l', rfl, e1⟩ := IsPart.raw pl
    obtain ⟨u', rfl, e2⟩ := IsPart.raw pu
    obtain ⟨k', rfl, e3⟩ := IsPart.raw ps
    cases l' with
    | some _ => cases e1
    | none =>
      cases u' with
      | some _ => cases e2
      | none =>
        cases k' with
        | none => cases e3
        | some kk =>
          obtain ⟨kv, kt⟩ := kk
          have ek : kv = -1 := Option.some.inj (show some kv = some (-1 : Int) from e3)
          subst ek
          refine wpAny_getItem_str_slice (l := none) (u := none) (st := some (-1, kt)) ⟨_, Heap.get?_push_size _ rfl, rfl, rfl⟩ rfl ?_
          show Made.post (if (((-1 : Int) == 1) && (slicePicked (ST l) none none (some (-1, kt))).length == (ST l).length) = true then Made.val (.str (ST l) t)
            else Made.str ⟨((slicePicked (ST l) none none (some (-1, kt))).filterMap ((ST l).cps[·]?)).toArray⟩) (EP X pins σ Q) _
          rw [if_neg (by intro z; rw [Bool.and_eq_true] at z; exact absurd z.1 (by decide))]
          have e : (⟨((slicePicked (ST l) none none (some (-1, kt))).filterMap ((ST l).cps[·]?)).toArray⟩ : Str) = ST l.reverse := congrArg Str.mk (rev_pick (ST l) hz)
          rw [e]
          exact ⟨by rw [ST_len, List.length_reverse]; exact hz, .str (ST l.reverse), H4, I5.tok _, ⟨_, rfl⟩, q⟩
  · subst ex
    cases r1
    obtain ⟨its, r, ht, hz⟩ := I5.list hx
    have hlen := r.length
    show wpAny (model X.prog X.w) X.A (subscriptTail e (.Slice none none (some (.UnaryOp .USub (.Constant (.int 1) k p1) p2)) p3) (.ref a) (.ref s4.heap.objs.size)) (EP X pins σ Q) X.xe { s4 with heap := s4.heap.push { cls := .type "slice", data := .fields #[vl, vu, vs] } }
    refine tail_any (ops := [.ref a, .ref s4.heap.objs.size]) ht.isList.typeIs (PySem.slot_list_getitem.lookup) ?_ (by with_unfolding_all rfl)
    refine wpAny_getItem_list_slice ht.isList (Heap.IsSliceOf.new _ vl vu vs) pl pu ps (by decide) ?_ (by rw [List.size_toArray]; omega)
    rw [PySem.W.krv_pick]
    refine ⟨.ref _, _, I5.laid (t' := s4.toks) (o := .lst xs.reverse) (fun b ob q => Heap.get?_push_of_some _ q) (Nat.le_refl _) ?_, rfl, q _ (I5.hok.fresh (Nat.le_refl _))⟩
    exact ⟨by rw [List.length_reverse]; exact hz, _, 0, r.reverse, Heap.get?_push_size _ rfl⟩

/-! ### list(x): a list, a tuple, a text -/
def rListU (K : PySem.W.Frag) : List V → Hp → VK → Prop := fun vs H Q =>
  (∃ p ys, vs = [.ref p] ∧ (SqL K H p ys ∨ SqT K H p ys) ∧ ∀ l, H l = none → Q (.ref l) (upd H l (.lst ys))) ∨
  (∃ c, vs = [.str (ST c)] ∧ c.length ≤ sizeLine ∧ ∀ l, H l = none → Q (.ref l) (upd H l (.lst (tx (signs c)))))
theorem call_listU (hc : X.calm = true) : CallR X (.type "list") (rListU X.K) := by
  intro pins s σ H vs us Q I r h
  rcases h with h | ⟨c, rfl, hz, q⟩
  · exact call_list_of pins s σ H vs us Q I r h
  · obtain ⟨u, rfl, t, rfl⟩ := vals1 r
    refine call_list_str (I.ok.hd hc) (ST c) t (fun h' tk acc c' k e hi => ?_) hz
    have hv0 : ∀ j v, acc.toList[j]? = some v → SignAt (ST c) (0 + j) v := fun j v hv => by
      rw [Nat.zero_add]
      exact hi.2 j v (by simpa using hv)
    have hS : ∀ (l : List Value) (i : Nat), (∀ j v, l[j]? = some v → SignAt (ST c) (i + j) v) → ∃ ss, StrsAre l ss := by
      intro l
      induction l with
      | nil => intro i _; exact ⟨[], .nil⟩
      | cons v r ih =>
        intro i hv
        obtain ⟨c, u, _, e⟩ := hv 0 v rfl
        subst e
        obtain ⟨ss, hs⟩ := ih (i + 1) fun j w hw => by
          have := hv (j + 1) w (by simpa using hw)
          rwa [show i + (j + 1) = i + 1 + j by omega] at this
        exact ⟨_, .cons _ _ hs⟩
    obtain ⟨ss, hsa⟩ := hS acc.toList 0 hv0
    have hvl : acc.toList.length = c.length := by
      rw [Array.length_toList]
      exact hi.1
    have esg : ss.map (·.cps.toList) = signs c := by
      have := signs_of (x := ST c) acc.toList ss 0 hsa hv0 (by rw [Nat.add_zero]; exact hvl)
      rw [this, List.drop_zero, ST_list]
    have rv := vals_of_strs hsa
    rw [tx_of, esg] at rv
    have hlen : (tx (signs c)).length ≤ sizeLine := by
      rw [tx_len]
      unfold signs
      rw [List.length_map]
      exact hz
    exact ⟨.ref s.heap.objs.size, _, I.laid (t' := tk) k (Nat.le_refl _) (show ObjOk X.prog X.w _ h' _ (.lst (tx (signs c))) from ⟨hlen, acc.toList, c', rv, by rw [Array.toArray_toList]; exact e⟩), rfl, q _ (I.hok.fresh (Nat.le_refl _))⟩

/-! ### constants that are texts -/
theorem pe_strL {z : Str} {l : List Nat} {j pos} (h : z = ST l) : PE X (.Constant (.str z) j pos) (tC (.str (ST l))) := by
  rw [← h]
  exact pe_str
theorem pe_globS {x : Str} {z : Str} {t : Tok} {l : List Nat} {pos : Pos} (h : z = ST l) (hg : Gl X x) (hm : X.mg x = some (.str z t)) (hd : (x == ("__debug__" : Str)) = false := by decide) : PE X (.Name x pos) (tC (.str (ST l))) := by
  rw [← h]
  exact pe_glob hg hm ⟨t, rfl⟩ hd
end
end RW

/-! U4: a caught exception kept as a value behind its try; isinstance of it. -/
namespace RW
open PySem PySem.Spec PyProof.Rows L2
/-- an exception object of the class cls without a dict of its own -/
def ExT (cls : Value) (a : Addr) : HO := .ext fun h => ∃ (oe : Obj) (vs : Array Value), h.get? a = some oe ∧ Zc cls none oe ∧ oe.data = .fields vs
theorem exT_ok {P : Program} {w : World} {H : Hp} {h : Heap} {a : Addr} {cls : Value} {oe : Obj} {vs : Array Value} (e : h.get? a = some oe) (z : Zc cls none oe) (d : oe.data = .fields vs) : ObjOk P w H h a (ExT cls a) :=
  ⟨⟨oe, vs, e, z, d⟩, ⟨oe, e⟩, fun _ _ ⟨o, v, q, r⟩ k => ⟨o, v, k o q, r⟩⟩
section
variable {X : Cx} {pins : List (Addr × Obj)} {σ : L2.St} {H : Hp} {s : Shared}
/-- a pinned exception object becomes a tracked one -/
theorem Inv.trackE {a : Addr} {oe : Obj} {vs : Array Value} {cls : Value} (I : Inv X ((a, oe) :: pins) σ H s) (hz : Zc cls none oe) (hd : oe.data = .fields vs) (n0 : X.s_0.heap.get? a = none) (np : ∀ p ∈ X.pn ++ pins, p.1 ≠ a) :
    Inv X pins σ (upd H a (ExT cls a)) s := by
  obtain ⟨ha, na, nL, nF, nc⟩ := I.pin (a, oe) (List.mem_append_right _ List.mem_cons_self)
  have ha : s.heap.get? a = some oe := ha
  have na : H a = none := na
  have nL : a ≠ X.env.locals := nL
  have ne0 : ∀ b o, X.s_0.heap.get? b = some o → b ≠ a := fun b o e z => by
    rw [z, n0] at e
    cases e
  have neH : ∀ b u, H b = some u → b ≠ a := fun b u e z => by
    rw [z, na] at e
    cases e
  refine ⟨I.ok, I.os, I.bare, ⟨I.base.keep, I.base.slot, fun b o e n hx => ?_, I.base.there, fun b xs e => ?_, fun b o u e => ?_, fun b ps e => ?_⟩, I.loc, I.cell, ?_, fun x c e => ?_, fun p hp => ?_, ?_, I.len⟩
  · rw [upd_ne (ne0 b o e)]
    exact I.base.free b o e n hx
  · have q := I.base.tups b xs e
    rw [upd_ne (neH _ _ q)]
    exact q
  · have q := I.base.frzs b o u e
    rw [upd_ne (neH _ _ q)]
    exact q
  · obtain ⟨m, q⟩ := I.base.tbls b ps e
    exact ⟨m, by rw [upd_ne (neH _ _ q)]; exact q⟩
  · rw [upd_ne (Ne.symm nL)]
    exact I.free
  · have hc : c ≠ a := fun z => by
      obtain ⟨v, o, ho, hdc⟩ := I.cell x c e
      rw [z, ha] at ho
      cases ho
      exact nc v hdc
    rw [upd_ne hc]
    exact I.freeC x c e
  · obtain ⟨e, n, r⟩ := I.pin p (by
      rcases List.mem_append.mp hp with h | h
      · exact List.mem_append_left _ h
      · exact List.mem_append_right _ (List.mem_cons_of_mem _ h))
    refine ⟨e, ?_, r⟩
    rw [upd_ne (np p hp)]
    exact n
  · exact I.hok.laidN (fun _ _ q => q) na (exT_ok ha hz hd)
end
/-- what the clause 'except x as n' wishes where the exception is kept: slot i is n's; behind the suite the object at a is tracked -/
def wAsE (K : PySem.W.Frag) (c : Value) (i : Nat) (ts : Addr → Value → Option Addr → TS) (Wout : WX) (D : Ends) : WX := fun cls d σ H =>
  ∃ b, PySem.W.exmOne K cls c = some b ∧ (b = true → d = none ∧ ∀ a, H a = none → ts a cls d { nx := fun σ' H' => H' a = none → D.nx (σ'.set i none) (upd H' a (ExT cls a)), rt := D.rt, bk := fun σ' H' => D.bk (σ'.set i none) H', ct := fun σ' H' => D.ct (σ'.set i none) H' } (σ.set i (some (.ref a))) H) ∧
    (b = false → Wout cls d σ H)
section
variable {X : Cx} {x n : Str} {c : Value} {i : Nat} {body suite orelse : List Stmt} {b₀ : Stmt} {np pos pos' : Pos} {tb : WX → TS} {ts : Addr → Value → Option Addr → TS} {u : TS} {Wout : WX}
theorem ps_try_asE (ho : PSs X orelse u) (hs : X.stack = X.env :: X.outer) (hf : X.env.frame = some X.env.locals) (hex : X.ex = []) (hN : X.N.Nodup) (hi : X.N[i]? = some n) (hln : X.env.kindOf n = some .local) (hc : Names X x c) (tk : Takes X Wout)
    (hb : ∀ (W : WX) (pn : List (Addr × Obj)) (xe : Value → Shared → Prop), Takes (X.tr pn xe) W → PassesOwn (model X.prog X.w) X.A X.env xe → PSs (X.tr pn xe) body (tb W))
    (hsu : ∀ (a : Addr) (oe : Obj) (cls : Value) (d : Option Addr) (pn : List (Addr × Obj)), Zc cls d oe → (∃ vs, oe.data = .fields vs) → PSs (X.suite a ((a, oe) :: pn)) (b₀ :: suite) (ts a cls d)) :
    PS X (.Try body [.ExceptHandler (some (.Name x np)) (some n) (b₀ :: suite) pos'] orelse [] pos) (fun D σ H => tb (wAsE X.K c i ts Wout D) { D with nx := u D } σ H) := by
  refine ⟨fun pins s σ H D I h => ?_⟩
  have ok := I.ok
  have hfr : X.A.frames = some (X.env :: X.outer) := by rw [ok.frames, hs]
  have hloc : Loc X.env.scope n := .inl hln
  refine wpAny_Try_except ?_
  refine wpAny_mono ((hb (wAsE X.K c i ts Wout D) (X.pn ++ pins) (fun e s₁ => wpAny (model X.prog X.w) X.A (noteFrame e X.env) (fun _ s₂ => wpAny (model X.prog X.w) X.A (setFlight e none) (fun _ s₃ =>
    wpAny (model X.prog X.w) X.A (handleBy e X.env [.ExceptHandler (some (.Name x np)) (some n) (b₀ :: suite) pos']) (SP X pins D) X.xe s₃) X.xe s₂) X.xe s₁) (fun u s' xx => ?_) PassesOwn.looking).run [] s σ H { D with nx := u D } (I.toTry _) h) (fun f s1 hsp => ?_) (fun e s1 he => he)
  · -- the catch
    obtain ⟨a, B, sI, pins', σ', H', cls, d, rfl, J', nb, up, sky, na, os, ag, b, hb1, hyes, hno⟩ := xx
    have J : Inv X pins σ' H' sI := J'.ofTry ok
    have sky' : Sky B (X.env :: X.outer) a (Zc cls d) X.env.locals s'.heap := by rw [← hs]; exact sky
    have nBa : B.get? a = none := by
      rcases sky with q | q | q
      · exact q.2.1
      · exact q.2.1
      · exact q.2.1
    show wpAny (model X.prog X.w) X.A (noteFrame (.ref a) X.env) _ _ _
    refine Sky.land Zc.steady hfr hf sky' fun h3 fl3 up3 => ?_
    have J3 : Inv X pins σ' H' { s' with heap := h3 } := J.landed nb fl3.1 (up.trans up3) os ag
    obtain ⟨oe3, vs3, he3, hz3, hd3⟩ := fl3.there
    have notFr : ∀ {h : Heap} {o : Obj} {vs : Array Value}, h.FunFrames B (X.env :: X.outer) → h.get? a = some o → o.data = .fields vs → a ∉ frs (X.env :: X.outer) := fun {h o vs} ff e dd hm => by
      obtain ⟨_, o', e', hnf⟩ := ff.mem hm
      rw [e] at e'; cases e'
      exact hnf _ dd
    have nfr := notFr fl3.2.2.1 he3 hd3
    have nL : a ≠ X.env.locals := fun z => nfr (List.mem_filterMap.mpr ⟨X.env, List.mem_cons_self, by rw [hf, z]⟩)
    have nF : a ∉ X.fs := fun hm => by
      obtain ⟨e, he, q⟩ := List.mem_filterMap.mp hm
      exact nfr (List.mem_filterMap.mpr ⟨e, List.mem_cons_of_mem _ he, q⟩)
    -- the exception is new
    have nI : sI.heap.get? a = none := by
      cases e : sI.heap.get? a with
      | none => rfl
      | some o =>
        have := nb a o e (by rw [hs]; exact nfr)
        rw [nBa] at this
        cases this
    have n0 : X.s_0.heap.get? a = none := by
      cases e : X.s_0.heap.get? a with
      | none => rfl
      | some o =>
        obtain ⟨o', e'⟩ := J.base.there a o e (by rw [hex]; exact fun z => nomatch z)
        rw [nI] at e'
        cases e'
    have npn : ∀ p ∈ X.pn ++ pins, p.1 ≠ a := fun p hp z => by
      have e := (J.pin p hp).1
      rw [z, nI] at e
      cases e
    have S3 := J3.suite he3 hd3 na nL nF
    refine wpAny_handleBy_cons (codeAny_handlers_test ?_) (by intro q; cases q)
    have LT : PySem.W.Looks (model X.prog X.w) h3 (typeOf (.ref a)) cls := fun A Q E s k q => wpAny_typeOf_ref (k _ _ he3) (by rw [hz3.1]; exact q)
    have LM := PySem.W.exm_one (M := model X.prog X.w) (J3.kIn) LT hb1
    have test : ∀ {Q : Value → Shared → Prop} {E : Value → Shared → Prop}, Q c { s' with heap := h3 } → wpAny (model X.prog X.w) (X.A.mark (some (.ref a))) (eval (.Name x np) X.env) Q E { s' with heap := h3 } := fun {Q E} q => by
      obtain ⟨hg, hdbg, hm | ⟨hm, hv, hnn⟩⟩ := hc
      · exact ld_glob (X := X.suite a ((a, oe3) :: (X.pn ++ pins))) S3 hg hm q hdbg
      · exact ld_blt (X := X.suite a ((a, oe3) :: (X.pn ++ pins))) S3 hg hm hv q hnn hdbg
    refine test (LM.here ?_)
    cases b with
    | true =>
      refine codeAny_handlers_suite_as ?_
      refine HandSPX.lands_againZ fl3 fun h4 fl4 up4 => ?_
      have J4 : Inv X pins σ' H' { s' with heap := h4 } := J.landed nb fl4.1 ((up.trans up3).trans up4) os ag
      obtain ⟨oe4, vs4, he4, hz4, hd4⟩ := fl4.there
      have S4 := J4.suite he4 hd4 na nL nF
      obtain ⟨dn, hyes⟩ := hyes rfl
      subst dn
      refine store_ok (X := X.suite a ((a, oe4) :: (X.pn ++ pins))) (v := .ref a) S4 hN hi hloc rfl (fun s5 S5 => ?_) (.inr hln)
      refine wpAny_mono ((hsu a oe4 cls none (X.pn ++ pins) hz4 ⟨_, hd4⟩).run [] s5 _ H' _ S5 (hyes a na)) (fun f s6 hsp => ?_) (fun _ _ z => False.elim z)
      -- the exception's pin stays through the end of the name
      have unsP : ∀ {σ6 : L2.St} {H6 : Hp}, Inv (X.suite a ((a, oe4) :: (X.pn ++ pins))) [] σ6 H6 s6 → Inv X ((a, oe4) :: pins) σ6 H6 s6 := fun {σ6 H6} S6 =>
        ⟨ok, S6.os, S6.bare, S6.base, S6.loc, S6.cell, S6.free, S6.freeC, fun p hp => by
          refine S6.pin p (List.mem_append_left _ ?_)
          show p ∈ (a, oe4) :: (X.pn ++ pins)
          rcases List.mem_append.mp hp with h | h
          · exact List.mem_cons_of_mem _ (List.mem_append_left _ h)
          · rcases List.mem_cons.mp h with h | h
            · rw [h]; exact List.mem_cons_self
            · exact List.mem_cons_of_mem _ (List.mem_append_right _ h), S6.hok, S6.len⟩
      have end_ : ∀ {σ6 : L2.St} {H6 : Hp} {Q : Shared → Prop}, Inv (X.suite a ((a, oe4) :: (X.pn ++ pins))) [] σ6 H6 s6 → (∀ s7, Inv X ((a, oe4) :: pins) (σ6.set i none) H6 s7 → Q s7) →
          wpAny (model X.prog X.w) X.A (do bindName X.env n .none; unbindBehindTheSuite X.env n pos') (fun _ s7 => Q s7) X.xe s6 := fun {σ6 H6 Q} S6 hq => gone_ok (unsP S6) hN hi hln hq
      have drop : ∀ {σ7 : L2.St} {H7 : Hp} {s7 : Shared}, Inv X ((a, oe4) :: pins) σ7 H7 s7 → Inv X pins σ7 H7 s7 := fun I7 =>
        I7.pins_of fun p hp => I7.pin p (List.mem_append_right _ (List.mem_cons_of_mem _ hp))
      cases f with
      | next =>
        obtain ⟨σ6, H6, S6, q6⟩ := hsp
        refine end_ S6 fun s7 J7 => ?_
        have na7 : H6 a = none := (J7.pin (a, oe4) (List.mem_append_right _ List.mem_cons_self)).2.1
        exact ⟨_, _, Inv.trackE J7 hz4 hd4 n0 npn, q6 na7⟩
      | brk =>
        obtain ⟨σ6, H6, S6, q6⟩ := hsp
        exact end_ S6 fun s7 J7 => ⟨_, _, drop J7, q6⟩
      | cont =>
        obtain ⟨σ6, H6, S6, q6⟩ := hsp
        exact end_ S6 fun s7 J7 => ⟨_, _, drop J7, q6⟩
      | ret u =>
        obtain ⟨v6, σ6, H6, S6, r6, q6⟩ := hsp
        exact end_ S6 fun s7 J7 => ⟨_, _, _, drop J7, r6, q6⟩
    | false =>
      show wpAny _ X.A (handleBy (.ref a) X.env []) _ _ _
      refine wpAny_handleBy_nil ?_
      obtain ⟨k1, k2, k3, oe, vs, T, oT, ts', he, hz, hd, h1, hr⟩ := id fl3
      unfold PySem.passOn
      refine wpAny_bind (wpAny_field he hd h1 ?_)
      rw [if_neg (show ¬ ((Value.ref T == Value.none) = true) from by simp)]
      have fin : wpAny (model X.prog X.w) X.A (setFlight (.ref a) X.env.frame) (fun _ s4 => wpAny (model X.prog X.w) X.A (throw (.ref a) : Sem Flow) (SP X pins D) X.xe s4) X.xe { s' with heap := h3 } := by
        rw [hf]
        refine HandSPX.setFlight_upZ fl3 fun h4 hh4 up4 => wpAny_throw (tk _ _ ?_)
        exact ⟨a, B, sI, pins, σ', H', cls, d, rfl, J, nb, (up.trans up3).trans up4, .inr (.inr (by rw [hs]; exact hh4)), na, os, ag, hno rfl⟩
      first
        | exact wpAny_bind (wpAny_pure (wpAny_bind fin))
        | exact wpAny_bind fin
  · cases f with
    | next =>
      obtain ⟨σ', H', J', q⟩ := hsp
      exact ho.run pins s1 σ' H' D (J'.ofTry ok) q
    | brk =>
      obtain ⟨σ', H', J', q⟩ := hsp
      exact ⟨σ', H', J'.ofTry ok, q⟩
    | cont =>
      obtain ⟨σ', H', J', q⟩ := hsp
      exact ⟨σ', H', J'.ofTry ok, q⟩
    | ret u =>
      obtain ⟨v, σ', H', J', r, q⟩ := hsp
      exact ⟨v, σ', H', J'.ofTry ok, r, q⟩
end
/-! ### isinstance -/
/-- isinstance(e, c), e a tracked exception -/
def rIsX (K : PySem.W.Frag) : List V → Hp → VK → Prop := fun xs H Q => ∃ (a D : Addr) (c : V) (u : Value) (b : Bool), xs = [.ref a, c] ∧ H a = some (ExT (.ref D) a) ∧ ExcC K D ∧ ClsV c u ∧ PySem.W.kitOne K (.ref D) u = some b ∧ Q (.bl b) H
theorem call_isX {X : Cx} : CallR X (.builtin "isinstance") (rIsX X.K) := by
  intro pins s σ H xs us Q I r h
  obtain ⟨a, D, c, u, b, rfl, hH, C, k, e, q⟩ := h
  obtain ⟨u1, u2, rfl, r1, r2⟩ := vals2 r
  have e2 := k.eq r2
  subst e2
  cases (show u1 = Value.ref a from r1)
  obtain ⟨⟨oe, vs, ho, hz, hd⟩, _, _⟩ := (show ObjOk X.prog X.w H s.heap a (ExT (.ref D) a) from I.hok a _ hH)
  have J : PySem.W.InstAt s.heap a oe D none := by
    obtain ⟨oc, od, oda, osl⟩ := oe
    obtain ⟨h1, h2⟩ := hz
    dsimp only at h1 h2 hd
    subst h1 h2 hd
    exact ⟨ho, rfl, rfl, trivial⟩
  exact PySem.W.kia_one (PySem.W.handS_kitx_exc C.hg C.hk C.hs C.hd C.ha C.hn C.ht C.hm) I.kIn J e (fun z => nomatch z) fun tk => ⟨.bl b, H, I.kept (t' := tk) fun _ _ z => z, rfl, q⟩
def rIsU (K : PySem.W.Frag) : List V → Hp → VK → Prop := fun xs H Q => rIsi K xs H Q ∨ rIsX K xs H Q
theorem call_isU {X : Cx} : CallR X (.builtin "isinstance") (rIsU X.K) := CallR.or call_isi call_isX
end RW

/-! U5: readings stepped from the left. -/
namespace RW
open PySem PySem.Spec L2
open Evl (Ex ex_l ex_t ex_rd fresh_back)
abbrev Frag := PySem.W.Frag
section
variable {K : Frag} {σ : L2.St} {H H' H0 : Hp} {Q : VK} {R : Bool → Hp → Prop} {ta tb tc te : TE} {t u : TT} {v x y z : V} {r : R2}
theorem dec_intD {i j : Int} : decide (V.int i = V.int j) = decide (i = j) := by rw [dec_int, Bool.beq_eq_decide_eq]
theorem Ex.at_ {p : Addr} {o : HO} (e : Ex H H') (h : H p = some o) : H' p = some o := e p o h
theorem Ex.trs {H1 : Hp} (a : Ex H0 H1) (b : Ex H1 H') : Ex H0 H' := fun x o h => b x o (a x o h)
theorem Ex.rfl' : Ex H H := fun _ _ h => h
/-! ### values -/
theorem x_var {i : Nat} (h : σ[i]? = some (some v)) (q : Q v H) : tVar i σ H Q := ⟨v, h, q⟩
theorem x_c (q : Q v H) : tC v σ H Q := q
theorem x_op (q : ta σ H fun x H1 => tb σ H1 fun y H2 => r x y H2 Q) : tOp r ta tb σ H Q := q
theorem x_un {f : V → Hp → VK → Prop} (q : ta σ H fun x H1 => f x H1 Q) : tUn f ta σ H Q := q
theorem x_neg {i : Int} (q : Q (.int (-i)) H) : rU (fun i => .int (-i)) (.int i) H Q := ⟨i, rfl, q⟩
theorem x_addI {i j : Int} (q : Q (.int (i + j)) H) : uAdd K (.int i) (.int j) H Q := q
theorem x_addS {a b : List Nat} (h : a.length + b.length ≤ sizeLine) (q : Q (.str (ST (a ++ b))) H) : uAdd K (.str (ST a)) (.str (ST b)) H Q := ⟨h, by rw [ST_append]; exact q⟩
theorem x_addL {l b : Addr} {xs zs : List V} (h1 : H l = some (.lst xs)) (h2 : H b = some (.lst zs)) (hz : xs.length + zs.length ≤ sizeLine) (q : ∀ p H', H p = none → Ex H H' → H' p = some (.lst (xs ++ zs)) → Q (.ref p) H') : uAdd K (.ref l) (.ref b) H Q :=
  ⟨xs, zs, h1, h2, hz, fun p hp => q p _ hp (Evl.Ex.new hp) upd_same⟩
theorem x_subI {i j : Int} (q : Q (.int (i - j)) H) : uSub (.int i) (.int j) H Q := q
theorem x_divI {i j : Int} (h : 0 < j) (h2 : j < 1073741824) (q : Q (.int (i / j)) H) : uDiv (.int i) (.int j) H Q := ⟨⟨h, h2⟩, q⟩
theorem x_modI {i j : Int} (h : 0 < j) (q : Q (.int (i % j)) H) : uMod (.int i) (.int j) H Q := ⟨h, q⟩
theorem x_powI {i j : Int} (h : CPow i j) (q : Q (.int (i ^ j.toNat)) H) : uPow (.int i) (.int j) H Q := ⟨h, q⟩
theorem x_mulI {i j : Int} (h : CMul i j) (q : Q (.int (i * j)) H) : uMul (.int i) (.int j) H Q := ⟨h, q⟩
theorem x_mulS {l : List Nat} {n : Int} (h0 : 0 ≤ n) (h1 : n < 2 ^ 62) (hz : l.length * n.toNat ≤ sizeLine) (q : Q (.str (ST (rep n.toNat l))) H) : uMul (.str (ST l)) (.int n) H Q := ⟨h0, h1, hz, q⟩
theorem x_mulL {l : Addr} {k : Int} {xs : List V} (h : H l = some (.lst xs)) (h0 : 0 ≤ k) (h1 : k < 2 ^ 62) (hz : xs.length * k.toNat ≤ sizeLine) (q : ∀ p H', H p = none → Ex H H' → H' p = some (.lst (List.replicate k.toNat xs).flatten) → Q (.ref p) H') : uMul (.ref l) (.int k) H Q :=
  ⟨xs, h, by omega, by omega, hz, fun p hp => q p _ hp (Evl.Ex.new hp) upd_same⟩
theorem x_ltI {i j : Int} (q : Q (.bl (decide (i < j))) H) : uLt (.int i) (.int j) H Q := q
theorem x_ltS {a b : List Nat} (q : Q (.bl (decide (a < b))) H) : uLt (.str (ST a)) (.str (ST b)) H Q := q
theorem x_leI {i j : Int} (q : Q (.bl (decide (i ≤ j))) H) : uLe (.int i) (.int j) H Q := q
theorem x_leS {a b : List Nat} (q : Q (.bl (!decide (b < a))) H) : uLe (.str (ST a)) (.str (ST b)) H Q := q
theorem x_gtI {i j : Int} (q : Q (.bl (decide (j < i))) H) : uGt (.int i) (.int j) H Q := q
theorem x_gtS {a b : List Nat} (q : Q (.bl (decide (b < a))) H) : uGt (.str (ST a)) (.str (ST b)) H Q := q
theorem x_geI {i j : Int} (q : Q (.bl (decide (j ≤ i))) H) : uGe (.int i) (.int j) H Q := q
theorem x_eqI {i j : Int} (q : Q (.bl (decide (i = j))) H) : uEq K (.int i) (.int j) H Q := .inl ⟨rfl, by rw [show decide (V.int i = V.int j) = decide (i = j) from dec_intD]; exact q⟩
theorem x_eqS {a b : List Nat} (q : Q (.bl (decide (a = b))) H) : uEq K (.str (ST a)) (.str (ST b)) H Q := .inl ⟨rfl, by rw [ST_dec]; exact q⟩
theorem x_eqB {a b : Bool} (q : Q (.bl (decide (a = b))) H) : uEq K (.bl a) (.bl b) H Q := .inl ⟨rfl, by rw [show decide (V.bl a = V.bl b) = decide (a = b) by cases a <;> cases b <;> rfl]; exact q⟩
theorem x_eqN (h : scal x y = true) (ne : x ≠ y) (q : Q (.bl false) H) : uEq K x y H Q := .inl ⟨h, by rw [decide_eq_false ne]; exact q⟩
theorem x_neI {i j : Int} (q : Q (.bl (!decide (i = j))) H) : uNe K (.int i) (.int j) H Q := .inl ⟨rfl, by rw [show decide (V.int i = V.int j) = decide (i = j) from dec_intD]; exact q⟩
theorem x_neS {a b : List Nat} (q : Q (.bl (!decide (a = b))) H) : uNe K (.str (ST a)) (.str (ST b)) H Q := .inl ⟨rfl, by rw [ST_dec]; exact q⟩
theorem x_neN (h : scal x y = true) (ne : x ≠ y) (q : Q (.bl true) H) : uNe K x y H Q := .inl ⟨h, by rw [decide_eq_false ne]; exact q⟩
theorem x_eqD {d e : PyData} (h1 : Dp K H x d) (h2 : Dp K H y e) (s1 : SeqAt.shaped d = true) (s2 : SeqAt.shaped e = true) (q : Q (.bl (PyData.eqv d e)) H) : uEq K x y H Q := .inr ⟨d, e, h1, h2, s1, s2, q⟩
theorem x_neD {d e : PyData} (h1 : Dp K H x d) (h2 : Dp K H y e) (s1 : SeqAt.shaped d = true) (s2 : SeqAt.shaped e = true) (q : Q (.bl (!PyData.eqv d e)) H) : uNe K x y H Q := .inr ⟨d, e, h1, h2, s1, s2, q⟩
theorem x_isN (q : Q (.bl (decide (x = .non))) H) : uIs x .non H Q := q
theorem x_isB {a b : Bool} (q : Q (.bl (decide (a = b))) H) : uIs (.bl a) (.bl b) H Q := q
theorem x_isNotN (q : Q (.bl (!decide (x = .non))) H) : uIsNot x .non H Q := q
theorem x_isNotB {a b : Bool} (q : Q (.bl (!decide (a = b))) H) : uIsNot (.bl a) (.bl b) H Q := q
theorem x_inS {c : Nat} {l : List Nat} (q : Q (.bl (decide (c ∈ l))) H) : uIn K (.str (ST [c])) (.str (ST l)) H Q := .inl ⟨c, ST l, rfl, rfl, q⟩
theorem x_inL {p : Addr} {xs : List V} (h : SqL K H p xs) (fx : flatV x = true) (fs : xs.all flatV = true) (q : Q (.bl (inV x xs)) H) : uIn K x (.ref p) H Q := .inr ⟨p, xs, rfl, .inl h, fx, fs, q⟩
theorem x_notinL {p : Addr} {xs : List V} (h : SqL K H p xs) (fx : flatV x = true) (fs : xs.all flatV = true) (q : Q (.bl (!inV x xs)) H) : uNotIn K x (.ref p) H Q := .inr ⟨p, xs, rfl, .inl h, fx, fs, q⟩
/-! ### subscripts -/
theorem x_ixL {p : Addr} {xs : List V} {i : Int} (h : SqL K H p xs) (ha : atI xs i = some v) (q : Q v H) : rIx K (.ref p) (.int i) H Q := .inl ⟨p, xs, i, v, rfl, rfl, h, ha, q⟩
theorem x_ixT {p : Addr} {xs : List V} {i : Int} (h : SqT K H p xs) (ha : atI xs i = some v) (q : Q v H) : rIx K (.ref p) (.int i) H Q := .inr (.inl ⟨p, xs, i, v, rfl, rfl, h, ha, q⟩)
theorem x_ixS {l : List Nat} {i : Int} {c : Nat} (hz : l.length ≤ sizeLine) (ha : atI l i = some c) (q : Q (.str (ST [c])) H) : rIx K (.str (ST l)) (.int i) H Q := .inr (.inr ⟨ST l, i, c, rfl, rfl, hz, ha, q⟩)
def rSlU (K : Frag) : V → Option Int → Option Int → Hp → VK → Prop := fun x lo hi H Q => rSlL K x lo hi H Q ∨ rSlS x lo hi H Q
theorem sl_u {X : Cx} : SlR X (rSlU X.K) := SlR.or sl_list sl_str
theorem x_sl {f : V → Option Int → Option Int → Hp → VK → Prop} {tl th : TO} (q : te σ H fun x H1 => tl σ H1 fun l H2 => th σ H2 fun u H3 => f x l u H3 Q) : tSl f te tl th σ H Q := q
theorem x_part {QO : Option Int → Hp → Prop} (q : te σ H fun x H1 => ∃ i, x = .int i ∧ QO (some i) H1) : tPart te σ H QO := q
theorem x_nopart {QO : Option Int → Hp → Prop} (q : QO none H) : tNoPart σ H QO := q
theorem x_slL {a : Addr} {xs : List V} {lo hi : Option Int} (h : SqL K H a xs) (q : ∀ p H', H p = none → Ex H H' → H' p = some (.lst (cutV xs lo hi)) → Q (.ref p) H') : rSlU K (.ref a) lo hi H Q :=
  .inl ⟨a, xs, rfl, h, fun p hp => q p _ hp (Evl.Ex.new hp) upd_same⟩
/-- l[lo:hi] of a list of anything -/
def cutL {α : Type} (xs : List α) (lo hi : Option Int) : List α := (xs.drop (HT.sIx xs.length 0 lo)).take (HT.sIx xs.length xs.length hi - HT.sIx xs.length 0 lo)
theorem x_slS {l : List Nat} {lo hi : Option Int} (h : l.length ≤ sizeLine) (q : Q (.str (ST (cutL l lo hi))) H) : rSlU K (.str (ST l)) lo hi H Q := .inr ⟨ST l, rfl, h, q⟩
theorem cutV_eq (xs : List V) (lo hi : Option Int) : cutV xs lo hi = cutL xs lo hi := rfl
theorem x_rev (q : te σ H fun x H1 =>
  (∃ l, x = .str (ST l) ∧ l.length ≤ sizeLine ∧ Q (.str (ST l.reverse)) H1) ∨ (∃ a xs, x = .ref a ∧ SqL K H1 a xs ∧ ∀ p, H1 p = none → Q (.ref p) (upd H1 p (.lst xs.reverse)))) : tRevU K te σ H Q := q
/-! ### displays, arguments -/
theorem x_nil {QA : List V → Hp → Prop} (q : QA [] H) : tNil σ H QA := q
theorem x_cons {QA : List V → Hp → Prop} {tr : TA} (q : ta σ H fun x H1 => tr σ H1 fun xs H2 => QA (x :: xs) H2) : tCons ta tr σ H QA := q
/-- a new list, a new tuple -/
def newL (xs : List V) (H : Hp) (Q : VK) : Prop := xs.length ≤ sizeLine ∧ ∀ l, H l = none → Q (.ref l) (upd H l (.lst xs))
def newT (xs : List V) (H : Hp) (Q : VK) : Prop := xs.length ≤ sizeLine ∧ ∀ l, H l = none → Q (.ref l) (upd H l (.tup xs))
theorem x_newL {xs : List V} (h : xs.length ≤ sizeLine) (q : ∀ p H', H p = none → Ex H H' → H' p = some (.lst xs) → Q (.ref p) H') : newL xs H Q := ⟨h, fun p hp => q p _ hp (Evl.Ex.new hp) upd_same⟩
theorem x_newT {xs : List V} (h : xs.length ≤ sizeLine) (q : ∀ p H', H p = none → Ex H H' → H' p = some (.tup xs) → Q (.ref p) H') : newT xs H Q := ⟨h, fun p hp => q p _ hp (Evl.Ex.new hp) upd_same⟩
theorem x_lst0 {tr : TA} (q : tr σ H fun xs H1 => newL xs H1 Q) : tLst tr σ H Q := q
theorem x_tup0 {tr : TA} (q : tr σ H fun xs H1 => newT xs H1 Q) : tTup tr σ H Q := q
theorem x_call {sp : Sp} {dvs : List V} {E : XK} {tr : TA} (q : tr σ H fun vs H1 => sp (vs ++ dvs) H1 Q E) : tCall sp dvs E tr σ H Q := q
theorem x_cb {f : List V → Hp → VK → Prop} {tr : TA} (q : tr σ H fun vs H1 => f vs H1 Q) : tCB f tr σ H Q := q
theorem x_m1 {f : V → List V → Hp → VK → Prop} (q : ta σ H fun x H1 => (∃ a, x = .str a) ∧ te σ H1 fun y H2 => f x [y] H2 Q) : tM1 f ta te σ H Q := q
theorem x_m1s {a : List Nat} {P : Prop} (q : P) : (∃ b, V.str (ST a) = .str b) ∧ P := ⟨⟨_, rfl⟩, q⟩
theorem x_bm {T : String} {f : V → List V → Hp → VK → Prop} {tr : TA} (q : te σ H fun x H1 => tyV K T x H1 ∧ tr σ H1 fun xs H2 => f x xs H2 Q) : tBM K T f te tr σ H Q := q
theorem x_bm0 {T : String} {f : V → List V → Hp → VK → Prop} (q : te σ H fun x H1 => tyV K T x H1 ∧ f x [] H1 Q) : tBM0 K T f te σ H Q := q
theorem x_tyL {p : Addr} {xs : List V} {P : Prop} (h : H p = some (.lst xs)) (q : P) : tyV K "list" (.ref p) H ∧ P := ⟨.inl ⟨rfl, _, SqL.of h⟩, q⟩
theorem x_tyS {l : List Nat} {P : Prop} (q : P) : tyV K "str" (.str (ST l)) H ∧ P := ⟨rfl, q⟩
/-! ### built-ins -/
abbrev rLen (K : Frag) : List V → Hp → VK → Prop := fun xs H Q => ∃ x n, xs = [x] ∧ LenV K x H n ∧ Q (.int n) H
theorem x_lenS {l : List Nat} (h : l.length ≤ sizeLine) (q : Q (.int (l.length : Int)) H) : rLen K [.str (ST l)] H Q := ⟨_, l.length, rfl, ⟨h, rfl⟩, q⟩
theorem x_lenL {p : Addr} {xs : List V} (h : SqL K H p xs) (q : Q (.int (xs.length : Int)) H) : rLen K [.ref p] H Q := ⟨_, xs.length, rfl, .inl ⟨xs, h, rfl⟩, q⟩
theorem x_lenT {p : Addr} {xs : List V} (h : SqT K H p xs) (q : Q (.int (xs.length : Int)) H) : rLen K [.ref p] H Q := ⟨_, xs.length, rfl, .inr ⟨xs, h, rfl⟩, q⟩
theorem x_all {p : Addr} {bs : List Bool} (h : SqL K H p (bs.map V.bl)) (q : Q (.bl (bs.all id)) H) : rAll K [.ref p] H Q := ⟨p, bs, rfl, h, q⟩
theorem x_any {p : Addr} {bs : List Bool} (h : SqL K H p (bs.map V.bl)) (q : Q (.bl (bs.any id)) H) : rAny K [.ref p] H Q := ⟨p, bs, rfl, h, q⟩
theorem x_sum {p : Addr} {ns : List Int} (h : SqL K H p (ns.map V.int)) (q : Q (.int ns.sum) H) : rSum K [.ref p] H Q := ⟨p, ns, rfl, h, q⟩
abbrev rMax2 : List V → Hp → VK → Prop := fun xs H Q => ∃ i j, xs = [.int i, .int j] ∧ Q (.int (if j > i then j else i)) H
theorem x_max2 {i j : Int} (q : Q (.int (if j > i then j else i)) H) : rMax2 [.int i, .int j] H Q := ⟨i, j, rfl, q⟩
theorem x_min2 {i j : Int} (q : Q (.int (if j < i then j else i)) H) : rMinU K [.int i, .int j] H Q := .inr ⟨i, j, rfl, q⟩
theorem x_minL {p : Addr} {ls : List (List Nat)} (h : SqL K H p (tx ls)) (h0 : ls ≠ []) (q : ∀ m, m ∈ ls → (∀ y ∈ ls, ¬ y < m) → Q (.str (ST m)) H) : rMinU K [.ref p] H Q := .inl ⟨p, ls, rfl, h, h0, q⟩
theorem x_sortedL {p : Addr} {ls : List (List Nat)} (h : SqL K H p (tx ls)) (q : ∀ ys p' H', ys.Perm ls → Asc ys → H p' = none → Ex H H' → H' p' = some (.lst (tx ys)) → Q (.ref p') H') : rSortedTx K [.ref p] H Q :=
  ⟨_, rfl, .inl ⟨p, ls, rfl, h, fun ys p' hp ha hn => q ys p' _ hp ha hn (Evl.Ex.new hn) upd_same⟩⟩
theorem x_sortedS {l : List Nat} (hz : l.length ≤ sizeLine) (q : ∀ ys p' H', ys.Perm (signs l) → Asc ys → H p' = none → Ex H H' → H' p' = some (.lst (tx ys)) → Q (.ref p') H') : rSortedTx K [.str (ST l)] H Q :=
  ⟨_, rfl, .inr ⟨l, rfl, hz, fun ys p' hp ha hn => q ys p' _ hp ha hn (Evl.Ex.new hn) upd_same⟩⟩
theorem x_listL {p : Addr} {ys : List V} (h : SqL K H p ys) (q : ∀ l H', H l = none → Ex H H' → H' l = some (.lst ys) → Q (.ref l) H') : rListU K [.ref p] H Q := .inl ⟨p, ys, rfl, .inl h, fun l hl => q l _ hl (Evl.Ex.new hl) upd_same⟩
theorem x_listS {c : List Nat} (hz : c.length ≤ sizeLine) (q : ∀ l H', H l = none → Ex H H' → H' l = some (.lst (tx (signs c))) → Q (.ref l) H') : rListU K [.str (ST c)] H Q := .inr ⟨c, rfl, hz, fun l hl => q l _ hl (Evl.Ex.new hl) upd_same⟩
/-- sep.join -/
abbrev rJoin (K : Frag) : V → List V → Hp → VK → Prop := fun x xs H Q => ∃ a p, ∃ ys : List Str, x = .str a ∧ xs = [.ref p] ∧ (SqL K H p (ys.map V.str) ∨ SqT K H p (ys.map V.str)) ∧ (ys.map (·.length)).sum + ys.length * a.length ≤ 16777216 ∧ Q (.str (Txt.join a ys)) H
theorem join_empty (ls : List (List Nat)) : Txt.join (ST []) (ls.map ST) = ST ls.flatten := by
  have go : ∀ (r : List (List Nat)) (acc : List Nat), (r.map ST).foldl (fun acc p => acc ++ (ST []).cps ++ p.cps) acc.toArray = (acc ++ r.flatten).toArray := by
    intro r
    induction r with
    | nil => intro acc; simp
    | cons l r ih =>
      intro acc
      rw [List.map_cons, List.foldl_cons]
      have e : acc.toArray ++ (ST []).cps ++ (ST l).cps = (acc ++ l).toArray := by
        unfold ST
        simp
      rw [e, ih, List.flatten_cons, List.append_assoc]
  cases ls with
  | nil => rfl
  | cons l r =>
    have e := go r l
    show (⟨(r.map ST).foldl (fun acc p => acc ++ (ST []).cps ++ p.cps) l.toArray⟩ : Str) = _
    rw [e, List.flatten_cons]
    rfl
theorem tx_sum (ls : List (List Nat)) : ((ls.map ST).map (·.length)).sum = ls.flatten.length := by
  rw [List.length_flatten, List.map_map]
  rfl
theorem x_join {p : Addr} {ls : List (List Nat)} (h : SqL K H p (tx ls)) (hz : ls.flatten.length ≤ 16777216) (q : Q (.str (ST ls.flatten)) H) : rJoin K (.str (ST [])) [.ref p] H Q := by
  refine ⟨ST [], p, ls.map ST, rfl, rfl, .inl (by rw [← tx_str]; exact h), ?_, by rw [join_empty]; exact q⟩
  rw [tx_sum]
  show ls.flatten.length + (ls.map ST).length * 0 ≤ _
  rw [Nat.mul_zero, Nat.add_zero]
  exact hz
end
end RW

/-! U6: statements, tests, loops, comprehensions, stepped. -/
namespace RW
open PySem PySem.Spec L2
open Evl (Ex ex_l ex_t ex_rd fresh_back)
section
variable {K : Frag} {σ : L2.St} {H H' H0 : Hp} {Q : VK} {R : Bool → Hp → Prop} {ta tb tc te : TE} {t u : TT} {v x y z : V} {r : R2}
variable {nx bk ct : L2.St → Hp → Prop} {rt : VK} {D : Ends} {tu tw : TS} {g : TG}
/-! ### statements -/
theorem x_seq (q : tu ⟨tw ⟨nx, rt, bk, ct⟩, rt, bk, ct⟩ σ H) : tSeq tu tw ⟨nx, rt, bk, ct⟩ σ H := q
theorem x_asg {i : Nat} (q : te σ H fun x H1 => nx (σ.set i (some x)) H1) : tAsg te (gName i) ⟨nx, rt, bk, ct⟩ σ H := q
theorem x_asgG (q : te σ H fun x H1 => g x σ H1 nx) : tAsg te g ⟨nx, rt, bk, ct⟩ σ H := q
theorem x_ret (q : te σ H rt) : tRet te ⟨nx, rt, bk, ct⟩ σ H := q
theorem x_retN (q : rt .non H) : tRetN ⟨nx, rt, bk, ct⟩ σ H := q
theorem x_if (q : t σ H fun b H1 => if b = true then tu D σ H1 else tw D σ H1) : tIfS t tu tw D σ H := q
theorem x_next (q : nx σ H) : tNext ⟨nx, rt, bk, ct⟩ σ H := q
theorem x_drop (q : te σ H fun _ H1 => nx σ H1) : tDrop te ⟨nx, rt, bk, ct⟩ σ H := q
theorem x_break (q : bk σ H) : tBreak ⟨nx, rt, bk, ct⟩ σ H := q
theorem x_cont (q : ct σ H) : tCont ⟨nx, rt, bk, ct⟩ σ H := q
theorem x_par {i j : Nat} {tA : TA} (q : tA σ H fun vs H1 => ∃ v w, vs = [v, w] ∧ nx ((σ.set i (some v)).set j (some w)) H1) : tPar i j tA ⟨nx, rt, bk, ct⟩ σ H := q
theorem x_par2 {v w : V} {P : V → V → Prop} (q : P v w) : ∃ a b, [v, w] = [a, b] ∧ P a b := ⟨v, w, rfl, q⟩
theorem x_aug {i : Nat} {ti : TIp} (h : σ[i]? = some (some v)) (q : te σ H fun y H1 => ti v y H1 fun z H2 => nx (σ.set i (some z)) H2) : tAug i te ti ⟨nx, rt, bk, ct⟩ σ H := ⟨v, h, q⟩
theorem x_ip {f : Int → Int → Int} {a b : Int} (q : Q (.int (f a b)) H) : ipI f (.int a) (.int b) H Q := ⟨a, b, rfl, rfl, q⟩
/-! ### tests -/
theorem x_test (q : te σ H fun x H' => ∃ k, x = .bl k ∧ R k H') : tTest te σ H R := q
theorem x_tB (q : te σ H fun x H' => ∃ k, x = .bl k ∧ R k H') : tB te σ H R := q
theorem x_bl {b : Bool} {P : Bool → Prop} (q : P b) : ∃ k, V.bl b = .bl k ∧ P k := ⟨b, rfl, q⟩
theorem x_and (q : t σ H fun c H1 => if c = true then u σ H1 R else R false H1) : tAnd t u σ H R := q
theorem x_or (q : t σ H fun c H1 => if c = true then R true H1 else u σ H1 R) : tOr t u σ H R := q
theorem x_not (q : t σ H fun c H1 => R (!c) H1) : tNot t σ H R := q
theorem x_andV (q : ta σ H fun x H1 => ∃ c, x = .bl c ∧ if c = true then tb σ H1 Q else Q (.bl false) H1) : tAndV ta tb σ H Q := q
theorem x_orV (q : ta σ H fun x H1 => ∃ c, x = .bl c ∧ if c = true then Q (.bl true) H1 else tb σ H1 Q) : tOrV ta tb σ H Q := q
theorem x_notV (q : ta σ H fun x H1 => ∃ c, x = .bl c ∧ Q (.bl (!c)) H1) : tNotV ta σ H Q := q
theorem x_ifV (q : t σ H fun c H1 => if c = true then ta σ H1 Q else tb σ H1 Q) : tIf t ta tb σ H Q := q
theorem x_chain {r' : R2} (q : ta σ H fun x H1 => tb σ H1 fun y H2 => r x y H2 fun z H3 => ∃ k, z = .bl k ∧
  (if k = true then tc σ H3 fun w' H4 => r' y w' H4 Q else Q (.bl false) H3)) : tChain r r' ta tb tc σ H Q := q
theorem x_intA {i : Int} {P : Int → Prop} (q : P i) : ∃ j, V.int i = .int j ∧ P j := ⟨i, rfl, q⟩
theorem x_it {A B : Prop} {b : Bool} (h : b = true) (q : A) : if b = true then A else B := by
  rw [if_pos h]
  exact q
theorem x_if0 {A B : Prop} {b : Bool} (h : b = false) (q : B) : if b = true then A else B := by
  rw [h, if_neg Bool.false_ne_true]
  exact q
theorem x_if2 {A B : Prop} {b : Bool} (h1 : b = true → A) (h2 : b = false → B) : if b = true then A else B := by
  cases b with
  | true => exact x_it rfl (h1 rfl)
  | false => exact x_if0 rfl (h2 rfl)
theorem x_ifd {p : Prop} [Decidable p] {A B : Prop} (h1 : p → A) (h2 : ¬ p → B) : if decide p = true then A else B :=
  x_if2 (fun h => h1 (of_decide_eq_true h)) fun h => h2 (of_decide_eq_false h)
theorem x_ifnd {p : Prop} [Decidable p] {A B : Prop} (h1 : ¬ p → A) (h2 : p → B) : if (!decide p) = true then A else B := by
  by_cases h : p
  · exact x_if0 (by rw [decide_eq_true h]; rfl) (h2 h)
  · exact x_it (by rw [decide_eq_false h]; rfl) (h1 h)
/-! ### targets -/
theorem x_gtup {n : Nat} {tg : TGs} {a : Addr} {xs : List V} {N : L2.St → Hp → Prop} (h : H a = some (.tup xs)) (hl : xs.length = n) (q : tg xs σ H N) : gTup K n tg (.ref a) σ H N := ⟨a, xs, rfl, SqT.of h, hl, q⟩
theorem x_gcons {tr : TGs} {i : Nat} {xs : List V} {N : L2.St → Hp → Prop} (q : tr xs (σ.set i (some v)) H N) : gCons (gName i) tr (v :: xs) σ H N := ⟨v, xs, rfl, q⟩
theorem x_gnil {N : L2.St → Hp → Prop} (q : N σ H) : gNil [] σ H N := ⟨rfl, q⟩
/-! ### while, for -/
theorem x_while {α : Type} (st : α → L2.St) (I : α → Hp → Prop) (μ : α → Nat) (a0 : α) (h0 : σ = st a0) (hI : I a0 H)
    (hs : ∀ a H, I a H → t (st a) H fun b H1 => if b = true then tu ⟨fun σ' H' => ∃ a', σ' = st a' ∧ I a' H' ∧ μ a' < μ a, rt, nx, fun σ' H' => ∃ a', σ' = st a' ∧ I a' H' ∧ μ a' < μ a⟩ (st a) H1 else nx (st a) H1)
    (hm : ∀ σ H (P P' : Bool → Hp → Prop), (∀ b H1, P b H1 → P' b H1) → t σ H P → t σ H P') : tWhile t tu ⟨nx, rt, bk, ct⟩ σ H := by
  refine ⟨fun m σ H => ∃ a, σ = st a ∧ I a H ∧ m = μ a, ⟨_, a0, h0, hI, rfl⟩, ?_⟩
  rintro m σ H ⟨a, rfl, hI, rfl⟩
  refine hm _ _ _ _ (fun b H1 q => ?_) (hs a H hI)
  cases b with
  | true => exact ⟨_, fun σ' H' ⟨a', e, i', l⟩ => ⟨_, l, a', e, i', rfl⟩, q⟩
  | false => exact q
/-- the same, the test told by a Bool of the state -/
theorem x_whileB {α : Type} (st : α → L2.St) (I : α → Hp → Prop) (μ : α → Nat) (a0 : α) (h0 : σ = st a0) (hI : I a0 H)
    (hs : ∀ a H, I a H → ∀ P : Bool → Hp → Prop,
      (∀ b H1, Ex H H1 → (b = true → tu ⟨fun σ' H' => ∃ a', σ' = st a' ∧ I a' H' ∧ μ a' < μ a, rt, nx, fun σ' H' => ∃ a', σ' = st a' ∧ I a' H' ∧ μ a' < μ a⟩ (st a) H1) → (b = false → nx (st a) H1) → P b H1) → t (st a) H P) : tWhile t tu ⟨nx, rt, bk, ct⟩ σ H := by
  refine ⟨fun m σ H => ∃ a, σ = st a ∧ I a H ∧ m = μ a, ⟨_, a0, h0, hI, rfl⟩, ?_⟩
  rintro m σ H ⟨a, rfl, hI, rfl⟩
  refine hs a H hI _ fun b H1 e q1 q2 => ?_
  cases b with
  | true => exact ⟨_, fun σ' H' ⟨a', e, i', l⟩ => ⟨_, l, a', e, i', rfl⟩, q1 rfl⟩
  | false => exact q2 rfl
theorem x_forRng1 {tA : TA} (q : tA σ H fun vs H1 => ∃ j : Int, vs = [.int j] ∧ -(2 ^ 62) ≤ j ∧ j < 2 ^ 62 ∧ tFor (fun _ H R => R (Itr 0 j.toNat) H) g tu D σ H1) : tFor (iRng1 tA) g tu D σ H := q
theorem x_forRng2 {tA : TA} (q : tA σ H fun vs H1 => ∃ i j : Int, vs = [.int i, .int j] ∧ (-(2 ^ 62) ≤ i ∧ i < 2 ^ 62 ∧ -(2 ^ 62) ≤ j ∧ j < 2 ^ 62) ∧ tFor (fun _ H R => R (Itr i (j - i).toNat) H) g tu D σ H1) : tFor (iRng2 tA) g tu D σ H := q
theorem x_rng1 {i : Int} {P : Int → Prop} (h1 : -(2 ^ 62) ≤ i) (h2 : i < 2 ^ 62) (q : P i) : ∃ j : Int, [V.int i] = [.int j] ∧ -(2 ^ 62) ≤ j ∧ j < 2 ^ 62 ∧ P j := ⟨i, rfl, h1, h2, q⟩
theorem x_rng2 {i j : Int} {P : Int → Int → Prop} (h : -(2 ^ 62) ≤ i ∧ i < 2 ^ 62 ∧ -(2 ^ 62) ≤ j ∧ j < 2 ^ 62) (q : P i j) : ∃ a b : Int, [V.int i, V.int j] = [.int a, .int b] ∧ (-(2 ^ 62) ≤ a ∧ a < 2 ^ 62 ∧ -(2 ^ 62) ≤ b ∧ b < 2 ^ 62) ∧ P a b := ⟨i, j, rfl, h, q⟩
theorem x_forR {α : Type} {j n : Nat} {lo : Int} (st : Nat → α → L2.St) (I : Nat → α → Hp → Prop) (a0 : α) (h0 : σ = st 0 a0) (hI : I 0 a0 H)
    (hs : ∀ i a H, i < n → I i a H → tu ⟨fun σ' H' => ∃ a', σ' = st (i + 1) a' ∧ I (i + 1) a' H', rt, nx, fun σ' H' => ∃ a', σ' = st (i + 1) a' ∧ I (i + 1) a' H'⟩ ((st i a).set j (some (.int (lo + (i : Int))))) H)
    (hd : ∀ a H, I n a H → nx (st n a) H) : tFor (fun _ H R => R (Itr lo n) H) (gName j) tu ⟨nx, rt, bk, ct⟩ σ H := by
  refine for_range (D := ⟨nx, rt, bk, ct⟩) (lo := lo) (n := n) (g := gName j) (tb := tu) (fun i σ' H' => ∃ a', σ' = st i a' ∧ I i a' H') ⟨a0, h0, hI⟩ ?_ ?_
  · rintro i σ' H' hi ⟨a, rfl, h⟩
    exact hs i a H' hi h
  · rintro σ' H' ⟨a, rfl, h⟩
    exact hd a H' h
theorem x_forLst (q : te σ H fun x H1 => ∃ a, x = .ref a ∧ (∃ xs, SqL K H1 a xs) ∧ tFor (fun _ H R => R (Itl K a) H) g tu D σ H1) : tFor (iList K te) g tu D σ H := q
theorem x_refL {a : Addr} {xs : List V} {P : Addr → Prop} (h : SqL K H a xs) (q : P a) : ∃ b, V.ref a = .ref b ∧ (∃ xs, SqL K H b xs) ∧ P b := ⟨a, rfl, ⟨xs, h⟩, q⟩
theorem x_forL {α : Type} {j : Nat} {a : Addr} {xs : List V} (st : Nat → α → L2.St) (I : Nat → α → Hp → Prop) (a0 : α) (h0 : σ = st 0 a0) (hI : I 0 a0 H) (hl : ∀ i a' H, I i a' H → SqL K H a xs)
    (hs : ∀ i v a' H, xs[i]? = some v → I i a' H → tu ⟨fun σ' H' => ∃ a', σ' = st (i + 1) a' ∧ I (i + 1) a' H', rt, nx, fun σ' H' => ∃ a', σ' = st (i + 1) a' ∧ I (i + 1) a' H'⟩ ((st i a').set j (some v)) H)
    (hd : ∀ a' H, I xs.length a' H → nx (st xs.length a') H) : tFor (fun _ H R => R (Itl K a) H) (gName j) tu ⟨nx, rt, bk, ct⟩ σ H := by
  refine for_list (D := ⟨nx, rt, bk, ct⟩) (K := K) (a := a) (xs := xs) (g := gName j) (tb := tu) (fun i σ' H' => ∃ a', σ' = st i a' ∧ I i a' H') ⟨a0, h0, hI⟩ ?_ ?_ ?_
  · rintro i σ' H' _ ⟨a', rfl, h⟩
    exact hl i a' H' h
  · rintro i v σ' H' hi ⟨a', rfl, h⟩
    exact hs i v a' H' hi h
  · rintro σ' H' ⟨a', rfl, h⟩
    exact hd a' H' h
theorem x_yes (q : R true H) : tYes σ H R := q
/-! ### comprehensions -/
/-- the walk of a comprehension, its iterator told -/
def lcGo (J : It) (g : TG) (tt : TT) (te : TE) (vs : List Nat) (σ : L2.St) (H1 : Hp) (Q : VK) : Prop := ∀ D, H1 D = none → ∃ W : Nat → Nat → Hp → Prop, (∃ m, W 0 m (upd H1 D (.lst []))) ∧ ∀ i m H, W i m H →
  (J.stop i H ∧ Q (.ref D) H) ∨ (J.go i H ∧ ∃ Nx : Hp → Prop, (∀ H', Nx H' → ∃ m', m' < m ∧ W (i + 1) m' H') ∧ ∀ x H', J.yld i H x H' → g x (wipe σ vs) H' fun σ2 H2 => wipe σ2 vs = wipe σ vs ∧ tt σ2 H2 fun b H3 =>
    if b = true then te σ2 H3 fun y H4 => ∃ acc, H4 D = some (.lst acc) ∧ acc.length < sizeLine ∧ Nx (upd H4 D (.lst (acc ++ [y]))) else Nx H3)
variable {vs : List Nat} {j : Nat}
theorem x_lcRng1 {tA : TA} (q : tA σ H fun ws H1 => ∃ n : Int, ws = [.int n] ∧ -(2 ^ 62) ≤ n ∧ n < 2 ^ 62 ∧ lcGo (Itr 0 n.toNat) g t te vs σ H1 Q) : tLc (iRng1 tA) g t te vs σ H Q := q
theorem x_lcRng2 {tA : TA} (q : tA σ H fun ws H1 => ∃ i n : Int, ws = [.int i, .int n] ∧ (-(2 ^ 62) ≤ i ∧ i < 2 ^ 62 ∧ -(2 ^ 62) ≤ n ∧ n < 2 ^ 62) ∧ lcGo (Itr i (n - i).toNat) g t te vs σ H1 Q) : tLc (iRng2 tA) g t te vs σ H Q := q
theorem x_lcLst (q : ta σ H fun x H1 => ∃ a, x = .ref a ∧ (∃ xs, SqL K H1 a xs) ∧ lcGo (Itl K a) g t te vs σ H1 Q) : tLc (iList K ta) g t te vs σ H Q := q
theorem x_lcStr (q : ta σ H fun v H1 => ∃ x, v = .str x ∧ lcGo (Its x) g t te vs σ H1 Q) : tLc (iStr ta) g t te vs σ H Q := q
theorem x_strA {l : List Nat} {P : Str → Prop} (q : P (ST l)) : ∃ x, V.str (ST l) = .str x ∧ P x := ⟨_, rfl, q⟩
/-- what the turns told so far have given -/
def Cg (H : Hp) (Dl : Addr) (xs : List V) (H' : Hp) : Prop := H Dl = none ∧ Ex H H' ∧ H' Dl = some (.lst xs)
/-- any walk whose items stand: n turns, the i-th gives F i -/
theorem lc_any {J : It} {n : Nat} (it : Nat → V) (F : Nat → Option V) (hn : n ≤ 16000000) (h1 : ∀ i H', Ex H H' → i < n → J.go i H') (h2 : ∀ H', Ex H H' → J.stop n H') (h3 : ∀ i H' x H'', Ex H H' → i < n → J.yld i H' x H'' → x = it i ∧ H'' = H')
    (hw : ∀ x, wipe ((wipe σ vs).set j (some x)) vs = wipe σ vs)
    (hb : ∀ i H', i < n → Ex H H' → ∀ (P : VK) (P0 : Hp → Prop), (∀ y H4, F i = some y → Ex H' H4 → P y H4) → (F i = none → ∀ H3, Ex H' H3 → P0 H3) →
      t ((wipe σ vs).set j (some (it i))) H' fun b H3 => if b = true then te ((wipe σ vs).set j (some (it i))) H3 P else P0 H3)
    (q : ∀ p H', H p = none → Ex H H' → H' p = some (.lst ((List.range n).filterMap F)) → Q (.ref p) H') : lcGo J (gName j) t te vs σ H Q := by
  intro Dl hD
  refine ⟨fun i m H' => m = n - i ∧ i ≤ n ∧ Cg H Dl ((List.range i).filterMap F) H', ⟨n, by omega, Nat.zero_le _, hD, Evl.Ex.new hD, upd_same⟩, ?_⟩
  rintro i m H' ⟨rfl, hi, c1, c2, c3⟩
  by_cases hlt : i < n
  · refine .inr ⟨h1 i H' c2 hlt, fun H'' => Cg H Dl ((List.range (i + 1)).filterMap F) H'', fun H'' c => ⟨n - (i + 1), by omega, rfl, hlt, c⟩, fun x H'' hy => ?_⟩
    obtain ⟨rfl, rfl⟩ := h3 i H' x H'' c2 hlt hy
    refine ⟨hw _, hb i H'' hlt c2 _ _ (fun y H4 hF e => ⟨_, e _ _ c3, ?_, c1, Evl.Ex.mut (Ex.trs c2 e) c1, ?_⟩) fun hF H3 e => ⟨c1, Ex.trs c2 e, ?_⟩⟩
    · have h5 : ((List.range i).filterMap F).length ≤ i := by
        have := List.length_filterMap_le F (List.range i)
        rwa [List.length_range] at this
      rw [sizeLine_eq]
      omega
    · rw [List.range_succ, List.filterMap_append, List.filterMap_cons, hF]
      exact upd_same
    · rw [List.range_succ, List.filterMap_append, List.filterMap_cons, hF, List.filterMap_nil, List.append_nil]
      exact e _ _ c3
  · obtain rfl : i = n := by omega
    exact .inl ⟨h2 H' c2, q Dl H' c1 c2 c3⟩
theorem x_lcR {n : Nat} {lo : Int} (F : Nat → Option V) (hn : n ≤ 16000000) (hw : ∀ x, wipe ((wipe σ vs).set j (some x)) vs = wipe σ vs)
    (hb : ∀ i H', i < n → Ex H H' → ∀ (P : VK) (P0 : Hp → Prop), (∀ y H4, F i = some y → Ex H' H4 → P y H4) → (F i = none → ∀ H3, Ex H' H3 → P0 H3) →
      t ((wipe σ vs).set j (some (.int (lo + (i : Int))))) H' fun b H3 => if b = true then te ((wipe σ vs).set j (some (.int (lo + (i : Int))))) H3 P else P0 H3)
    (q : ∀ p H', H p = none → Ex H H' → H' p = some (.lst ((List.range n).filterMap F)) → Q (.ref p) H') : lcGo (Itr lo n) (gName j) t te vs σ H Q :=
  lc_any (fun i => .int (lo + (i : Int))) F hn (fun _ _ _ h => h) (fun _ _ => Nat.le_refl _) (fun _ _ _ _ _ _ hy => ⟨hy.2, hy.1⟩) hw hb q
theorem filterMap_some {α β : Type} (f : α → β) (l : List α) : l.filterMap (fun i => some (f i)) = l.map f := by
  rw [← List.filterMap_eq_map]
  rfl
/-- no ifs -/
theorem x_lcRm {n : Nat} {lo : Int} (F : Nat → V) (hn : n ≤ 16000000) (hw : ∀ x, wipe ((wipe σ vs).set j (some x)) vs = wipe σ vs)
    (hb : ∀ i H', i < n → Ex H H' → ∀ P : VK, (∀ H4, Ex H' H4 → P (F i) H4) → te ((wipe σ vs).set j (some (.int (lo + (i : Int))))) H' P)
    (q : ∀ p H', H p = none → Ex H H' → H' p = some (.lst ((List.range n).map F)) → Q (.ref p) H') : lcGo (Itr lo n) (gName j) tYes te vs σ H Q :=
  x_lcR (fun i => some (F i)) hn hw (fun i H' hi e P P0 h1 h2 => x_yes (x_it rfl (hb i H' hi e P fun H4 e4 => h1 _ _ rfl e4))) fun p H' h1 h2 h3 => q p H' h1 h2 (by rw [filterMap_some] at h3; exact h3)
/-- over a list that stands -/
theorem x_lcL {a : Addr} {xs : List V} (hx : SqL K H a xs) (F : V → Option V) (hn : xs.length ≤ 16000000) (hw : ∀ x, wipe ((wipe σ vs).set j (some x)) vs = wipe σ vs)
    (hb : ∀ x H', x ∈ xs → Ex H H' → ∀ (P : VK) (P0 : Hp → Prop), (∀ y H4, F x = some y → Ex H' H4 → P y H4) → (F x = none → ∀ H3, Ex H' H3 → P0 H3) →
      t ((wipe σ vs).set j (some x)) H' fun b H3 => if b = true then te ((wipe σ vs).set j (some x)) H3 P else P0 H3)
    (q : ∀ p H', H p = none → Ex H H' → H' p = some (.lst (xs.filterMap F)) → Q (.ref p) H') : lcGo (Itl K a) (gName j) t te vs σ H Q := by
  refine lc_any (n := xs.length) (fun i => xs.getD i .non) (fun i => F (xs.getD i .non)) hn (fun i H' e hi => ⟨xs, xs[i], ex_l e hx, by simp [hi]⟩) (fun H' e => ⟨xs, ex_l e hx, Nat.le_refl _⟩)
    (fun i H' x H'' e hi hy => ⟨?_, hy.1⟩) hw (fun i H' hi e P P0 h1 h2 => ?_) fun p H' h1 h2 h3 => q p H' h1 h2 ?_
  · have := hy.2 xs (ex_l e hx)
    rw [List.getD_eq_getElem?_getD, this]
    rfl
  · have hm : xs.getD i .non ∈ xs := by
      rw [List.getD_eq_getElem?_getD, List.getElem?_eq_getElem hi]
      exact List.getElem_mem hi
    exact hb _ H' hm e P P0 h1 h2
  · have e : (List.range xs.length).filterMap (fun i => F (xs.getD i .non)) = xs.filterMap F := by
      have e2 : (List.range xs.length).map (fun i => xs.getD i .non) = xs := by
        apply List.ext_getElem
        · simp
        · intro i h1 h2
          rw [List.getElem_map, List.getElem_range, List.getD_eq_getElem?_getD, List.getElem?_eq_getElem h2]
          rfl
      have e3 : ((List.range xs.length).map (fun i => xs.getD i .non)).filterMap F = (List.range xs.length).filterMap (fun i => F (xs.getD i .non)) := by
        rw [List.filterMap_map]
        rfl
      rw [← e3, e2]
    rw [← e]
    exact h3
theorem x_lcLm {a : Addr} {xs : List V} (hx : SqL K H a xs) (F : V → V) (hn : xs.length ≤ 16000000) (hw : ∀ x, wipe ((wipe σ vs).set j (some x)) vs = wipe σ vs)
    (hb : ∀ x H', x ∈ xs → Ex H H' → ∀ P : VK, (∀ H4, Ex H' H4 → P (F x) H4) → te ((wipe σ vs).set j (some x)) H' P)
    (q : ∀ p H', H p = none → Ex H H' → H' p = some (.lst (xs.map F)) → Q (.ref p) H') : lcGo (Itl K a) (gName j) tYes te vs σ H Q :=
  x_lcL hx (fun i => some (F i)) hn hw (fun i H' hi e P P0 h1 h2 => x_yes (x_it rfl (hb i H' hi e P fun H4 e4 => h1 _ _ rfl e4))) fun p H' h1 h2 h3 => q p H' h1 h2 (by rw [filterMap_some] at h3; exact h3)
/-- over the signs of a text -/
theorem x_lcS {l : List Nat} (F : Nat → Option V) (hn : l.length ≤ 16000000) (hw : ∀ x, wipe ((wipe σ vs).set j (some x)) vs = wipe σ vs)
    (hb : ∀ c H', c ∈ l → Ex H H' → ∀ (P : VK) (P0 : Hp → Prop), (∀ y H4, F c = some y → Ex H' H4 → P y H4) → (F c = none → ∀ H3, Ex H' H3 → P0 H3) →
      t ((wipe σ vs).set j (some (.str (ST [c])))) H' fun b H3 => if b = true then te ((wipe σ vs).set j (some (.str (ST [c])))) H3 P else P0 H3)
    (q : ∀ p H', H p = none → Ex H H' → H' p = some (.lst (l.filterMap F)) → Q (.ref p) H') : lcGo (Its (ST l)) (gName j) t te vs σ H Q := by
  refine lc_any (n := l.length) (fun i => .str (ST [l.getD i 0])) (fun i => F (l.getD i 0)) hn (fun i H' e hi => hi) (fun H' e => Nat.le_refl _)
    (fun i H' x H'' e hi hy => ⟨?_, hy.1⟩) hw (fun i H' hi e P P0 h1 h2 => ?_) fun p H' h1 h2 h3 => q p H' h1 h2 ?_
  · obtain ⟨_, c, hc, rfl⟩ := hy
    have e1 : l[i]? = some c := by
      have h := hc
      unfold ST at h
      simpa using h
    rw [List.getD_eq_getElem?_getD, e1]
    rfl
  · have hm : l.getD i 0 ∈ l := by
      rw [List.getD_eq_getElem?_getD, List.getElem?_eq_getElem hi]
      exact List.getElem_mem hi
    exact hb _ H' hm e P P0 h1 h2
  · have e : (List.range l.length).filterMap (fun i => F (l.getD i 0)) = l.filterMap F := by
      have e2 : (List.range l.length).map (fun i => l.getD i 0) = l := by
        apply List.ext_getElem
        · simp
        · intro i h1 h2
          rw [List.getElem_map, List.getElem_range, List.getD_eq_getElem?_getD, List.getElem?_eq_getElem h2]
          rfl
      have e3 : ((List.range l.length).map (fun i => l.getD i 0)).filterMap F = (List.range l.length).filterMap (fun i => F (l.getD i 0)) := by
        rw [List.filterMap_map]
        rfl
      rw [← e3, e2]
    rw [← e]
    exact h3
theorem x_lcSm {l : List Nat} (F : Nat → V) (hn : l.length ≤ 16000000) (hw : ∀ x, wipe ((wipe σ vs).set j (some x)) vs = wipe σ vs)
    (hb : ∀ c H', c ∈ l → Ex H H' → ∀ P : VK, (∀ H4, Ex H' H4 → P (F c) H4) → te ((wipe σ vs).set j (some (.str (ST [c])))) H' P)
    (q : ∀ p H', H p = none → Ex H H' → H' p = some (.lst (l.map F)) → Q (.ref p) H') : lcGo (Its (ST l)) (gName j) tYes te vs σ H Q :=
  x_lcS (fun i => some (F i)) hn hw (fun i H' hi e P P0 h1 h2 => x_yes (x_it rfl (hb i H' hi e P fun H4 e4 => h1 _ _ rfl e4))) fun p H' h1 h2 h3 => q p H' h1 h2 (by rw [filterMap_some] at h3; exact h3)
end
end RW

/-! U7: walks of a text or a list, count of bools, calls by what the top has. -/
namespace RW
open PySem PySem.Spec PyProof.Rows L2
open Evl (Ex ex_l ex_t ex_rd fresh_back)
/-! ### for, comprehensions over a text or a list -/
def iU (K : Frag) (te : TE) : TI := fun σ H R => te σ H fun v H1 => (∃ x, v = .str x ∧ R (Its x) H1) ∨ (∃ a, v = .ref a ∧ (∃ xs, SqL K H1 a xs) ∧ R (Itl K a) H1)
theorem pi_u {X : Cx} {tg e : Expr} {te : TE} (he : PE X e te) : PI X tg e (iU X.K te) := by
  refine ⟨fun pins s σ H R I h => ?_⟩
  refine thn (he.run pins s σ H _ I h) fun v s1 ⟨y, H1, I1, r1, q⟩ => ?_
  rcases q with ⟨x, ex, q⟩ | ⟨a, e, ⟨xs, hq⟩, q⟩
  · subst ex
    obtain ⟨t, rfl⟩ := r1
    cases ha : x.cps.all (· < 128)
    · exact wpAny_pyIter_wide ha (pi_one (tk := s1.toks) I1 _ (turn_str _ x t "str_iterator" (.inr rfl)) ⟨_, Heap.get?_push_size _ rfl, rfl, rfl⟩ q)
    · exact wpAny_pyIter_ascii ha (pi_one (tk := s1.toks) I1 _ (turn_str _ x t "str_ascii_iterator" (.inl rfl)) ⟨_, Heap.get?_push_size _ rfl, rfl, rfl⟩ q)
  · subst e
    cases r1
    obtain ⟨its, rv, p, hz⟩ := I1.list hq
    refine wpAny_pyIter_list p.isList ?_
    exact pi_one (tk := s1.toks) I1 _ (turn_list a _) ⟨_, Heap.get?_push_size _ rfl, rfl, rfl⟩ q
section
variable {K : Frag} {σ : L2.St} {H : Hp} {te ta : TE} {tt : TT} {vs : List Nat} {g : TG} {Q : VK} {tu : TS} {D : Ends}
theorem x_lcU (q : ta σ H fun v H1 => (∃ x, v = .str x ∧ lcGo (Its x) g tt te vs σ H1 Q) ∨ (∃ a, v = .ref a ∧ (∃ xs, SqL K H1 a xs) ∧ lcGo (Itl K a) g tt te vs σ H1 Q)) : tLc (iU K ta) g tt te vs σ H Q := q
theorem x_uS {l : List Nat} {P : Str → Prop} {P' : Addr → Prop} {H1 : Hp} (q : P (ST l)) : (∃ x, V.str (ST l) = .str x ∧ P x) ∨ (∃ a, V.str (ST l) = .ref a ∧ (∃ xs, SqL K H1 a xs) ∧ P' a) := .inl ⟨_, rfl, q⟩
theorem x_uL {a : Addr} {xs : List V} {P : Str → Prop} {P' : Addr → Prop} {H1 : Hp} (h : SqL K H1 a xs) (q : P' a) : (∃ x, V.ref a = .str x ∧ P x) ∨ (∃ b, V.ref a = .ref b ∧ (∃ xs, SqL K H1 b xs) ∧ P' b) := .inr ⟨a, rfl, ⟨xs, h⟩, q⟩
theorem x_forU (q : te σ H fun v H1 => (∃ x, v = .str x ∧ tFor (fun _ H R => R (Its x) H) g tu D σ H1) ∨ (∃ a, v = .ref a ∧ (∃ xs, SqL K H1 a xs) ∧ tFor (fun _ H R => R (Itl K a) H) g tu D σ H1)) : tFor (iU K te) g tu D σ H := by
  refine q
end
/-! ### list.count of bools -/
def rCntB (K : Frag) : V → List V → Hp → VK → Prop := fun x xs H Q => ∃ (p : Addr) (bs : List Bool) (k : Bool), x = .ref p ∧ xs = [.bl k] ∧ SqL K H p (bs.map V.bl) ∧ Q (.int (bs.count k : Nat)) H
theorem bools_of : ∀ {bs : List Bool} {us : List Value}, Vals (bs.map V.bl) us → us = bs.map Value.bool
  | [], _, .nil => rfl
  | b :: bs, _, .cons r t => by
    cases r
    rw [bools_of t]
    rfl
theorem cntB_mem {bs : List Bool} {k : Bool} {y : Value} (hy : y ∈ bs.map Value.bool) (A : Around) (s : Shared) : SeqAt.EqAt A s y (.bool k) (PyProof.Rows.isBoolOf k y) := by
  obtain ⟨b, _, rfl⟩ := List.mem_map.mp hy
  exact SeqAt.EqAt.bool_bool b k
theorem cntB_len (k : Bool) : ∀ bs : List Bool, (bs.map Value.bool).countP (PyProof.Rows.isBoolOf k) = bs.count k
  | [] => rfl
  | b :: bs => by
    rw [List.map_cons, List.countP_cons, List.count_cons, cntB_len k bs]
    rfl
theorem mt_countB {X : Cx} : MtR X "list.count" (rCntB X.K) := by
  intro pins s σ H x xs v us Q I rx rxs h
  obtain ⟨p, bs, k, rfl, rfl, hs, q⟩ := h
  cases rx
  obtain ⟨u, rfl, ru⟩ := vals1 rxs
  cases (show u = Value.bool k from ru)
  obtain ⟨its, rv, ⟨⟨cls, dd, data, sl⟩, n, ho, hc, hdn, hd⟩, hlen⟩ := I.list hs
  simp only at hc hd
  subst hc hd
  have hi := bools_of rv
  subst hi
  refine call_meets PySem.F.slot_list_count ⟨_, ho, rfl⟩ PySem.F.entry_list_count (PySem.F.args_list_count_2 _ _)
    (SeqAt.list_countAt p (bs.map Value.bool).toArray n dd sl (.bool k) (PyProof.Rows.isBoolOf k)) ⟨ho, fun y hy => cntB_mem (bs := bs) (by simpa using hy) _ _, ?_⟩
  refine ⟨.int (bs.count k : Nat), H, I.tok _, ⟨s.toks, ?_⟩, q⟩
  show Value.int ((((bs.map Value.bool).toArray.toList.countP (PyProof.Rows.isBoolOf k)) : Nat) : Int) s.toks = Value.int ((bs.count k : Nat) : Int) s.toks
  rw [List.toList_toArray, cntB_len]
/-! ### what the top has -/
/-- the def x stands in the module, and keeps its promise -/
def Has (P : Program) (w : World) (K : Frag) (mg : Str → Option Value) (base : Heap) (CX : CXT) (k : Nat) (x : Str) (ps : List Str) (sp : Sp) : Prop :=
  ∃ (f : Addr) (fd : FuncData), FnOk P w K mg base CX k f fd ps sp ∧ mg x = some (.ref f) ∧ PySem.W.keepIn K (.ref f) = true ∧ Binds K fd ps []
/-- the def x stands in the module -/
def At (K : Frag) (mg : Str → Option Value) (x : Str) (st : Stmt) : Prop := ∃ (f : Addr) (fd : FuncData), Fun K x x st f fd ∧ mg x = some (.ref f)
section
variable {X : Cx} {CX : CXT} {k : Nat} {ps : List Str} {sp : Sp} {E : XK} {x : Str} {p pos : Pos} {e : Expr} {es : List Expr} {t : TA}
theorem pe_callH (h : Has X.prog X.w X.K X.mg X.base CX k x ps sp) (hr : Room k X.A) (hg : Gl X x) (hx : Passes CX X E)
    (ha : PA X (e :: es) t) (hdb : (x == ("__debug__" : Str)) = false := by decide) (he : starEach (e :: es) X.env = (false, eval e X.env) :: starEach es X.env := by rfl) (hpl : (backTo pos (starEach es X.env)).any (·.1) = false := by rfl) :
    PE X (.Call (.Name x p) (e :: es) [] pos) (tCall sp [] E t) := by
  obtain ⟨f, fd, F, hm, hk, hb⟩ := h
  exact pe_call F hr hg hm hk hb .nil hx ha hdb he hpl
theorem pe_callHS {Es : L2.St → XK} (h : Has X.prog X.w X.K X.mg X.base CX k x ps sp) (hr : Room k X.A) (hg : Gl X x) (hx : ∀ σ, PassesAt CX X σ (Es σ))
    (ha : PA X (e :: es) t) (hdb : (x == ("__debug__" : Str)) = false := by decide) (he : starEach (e :: es) X.env = (false, eval e X.env) :: starEach es X.env := by rfl) (hpl : (backTo pos (starEach es X.env)).any (·.1) = false := by rfl) :
    PE X (.Call (.Name x p) (e :: es) [] pos) (tCallS sp Es t) := by
  obtain ⟨f, fd, F, hm, hk, hb⟩ := h
  exact pe_callS F hr hg hm hk hb hx ha hdb he hpl
end
theorem x_callS {sp : Sp} {Es : L2.St → XK} {tr : TA} {σ : L2.St} {H : Hp} {Q : VK} (q : tr σ H fun vs H1 => sp vs H1 Q (Es σ)) : tCallS sp Es tr σ H Q := q
section
variable {P : Program} {w : World} {K : Frag} {mg : Str → Option Value} {base : Heap}
theorem has_of {x : Str} {st : Stmt} {ps N : List Str} {k : Nat} {sp : Sp} (h : At K mg x st) (S : FnScope N ps (defScope st)) (len : ∀ vs H Q E, sp vs H Q E → vs.length = ps.length)
    (hb : ∀ (kV doc pm : Value) (an : Option Addr) (cdv ct : Value) (us : List Value), us.length = ps.length → bindArgs (PySem.W.fnOf x x (defArgs st) (defBody st) (defScope st) .none kV doc pm an cdv ct) ⟨us, []⟩ = pure (ps.zip us))
    (hbody : ∀ (f : Addr) (cdv : Value) (A : Around) (outer : List Env) (s : Shared) (H : Hp) (vs : List V) (Q : VK) (E : XK), Room k (A.deeper (envOfC x (defScope st) s.heap.objs.size f cdv)) → sp vs H Q E →
      ∃ t, PSs (cxOf CX0 P w K mg base N x (defScope st) f cdv A outer s H E).nox (defBody st) t ∧ t { nx := fun _ H' => Q .non H', rt := Q } (start N vs) H) : Has P w K mg base CX0 (k + 1) x ps sp := by
  obtain ⟨f, fd, F, hm⟩ := h
  exact ⟨f, fd, F.ok S len fun cdv A outer s H vs Q E hr hs => hbody f cdv A outer s H vs Q E hr hs, hm, F.kp, F.binds hb⟩
theorem hasX_of {x : Str} {st : Stmt} {ps N : List Str} {k : Nat} {sp : Sp} (h : At K mg x st) (S : FnScope N ps (defScope st)) (len : ∀ vs H Q E, sp vs H Q E → vs.length = ps.length)
    (hb : ∀ (kV doc pm : Value) (an : Option Addr) (cdv ct : Value) (us : List Value), us.length = ps.length → bindArgs (PySem.W.fnOf x x (defArgs st) (defBody st) (defScope st) .none kV doc pm an cdv ct) ⟨us, []⟩ = pure (ps.zip us))
    (hbody : ∀ (f : Addr) (cdv : Value) (A : Around) (outer : List Env) (s : Shared) (H : Hp) (vs : List V) (Q : VK) (E : XK), Room k (A.deeper (envOfC x (defScope st) s.heap.objs.size f cdv)) → sp vs H Q E →
      ∃ t, PSs (cxOf (L2.CX P w) P w K mg base N x (defScope st) f cdv A outer s H E) (defBody st) t ∧ t { nx := fun _ H' => Q .non H', rt := Q } (start N vs) H) : Has P w K mg base (L2.CX P w) (k + 1) x ps sp := by
  obtain ⟨f, fd, F, hm⟩ := h
  exact ⟨f, fd, F.okX S len fun cdv A outer s H vs Q E hr hs => hbody f cdv A outer s H vs Q E hr hs, hm, F.kp, F.binds hb⟩
end
/-- raise X('..') -/
def tRaise (C : Addr) (E : XK) : TS := fun _ _ H => E (.ref C) none H
/-- what the top has of an own class of error -/
structure ErrC (K : Frag) (mg : Str → Option Value) (x : Str) (C : Addr) (bmB : List Value) : Prop where
  g : mg x = some (.ref C)
  x : PySem.W.excIn K C bmB "ValueError.__new__" = true
  k : PySem.W.keepIn K (.ref C) = true
  b : PySem.W.subIn K (.ref C) (.type "BaseException") = some true
  t : PySem.W.typeIn K (.ref C) = some (.type "type")
end RW

/-! U8: more steps: slices by places, indexes, equality of lists of texts, calls. -/
namespace RW
open PySem PySem.Spec PyProof.Rows L2
open Evl (Ex ex_l ex_t ex_rd fresh_back)
/-- what the top has written: the written part, the classes -/
structure G where
  K : Frag
  cWordError : Addr
  cNoWord : Addr
  cNoSigns : Addr
  cNoCount : Addr
  cTooMany : Addr
  cNoRing : Addr
  cTwice : Addr
  cRings : Addr
abbrev rInt1 : List V → Hp → VK → Prop := fun xs H Q => (∃ i, xs = [.int i] ∧ Q (.int i) H) ∨ ∃ k, xs = [.bl k] ∧ Q (.int (if k then 1 else 0)) H
abbrev rTupleU (K : Frag) : List V → Hp → VK → Prop := fun xs H Q => ∃ p ys, xs = [.ref p] ∧ ((SqL K H p ys ∧ ∀ l, H l = none → Q (.ref l) (upd H l (.tup ys))) ∨ (SqT K H p ys ∧ Q (.ref p) H))
abbrev rDivmod : List V → Hp → VK → Prop := fun xs H Q => ∃ i j, xs = [.int i, .int j] ∧ CDiv i j ∧ ∀ p, H p = none → Q (.ref p) (upd H p (.tup [.int (i / j), .int (i % j)]))
abbrev rRstrip : V → List V → Hp → VK → Prop := fun x xs H Q => ∃ a b, x = .str a ∧ xs = [.str b] ∧ a.length ≤ sizeLine ∧ Q (.str (Txt.rstripChars a b)) H
abbrev rStrip : V → List V → Hp → VK → Prop := fun x xs H Q => ∃ a b, x = .str a ∧ xs = [.str b] ∧ a.length ≤ sizeLine ∧ Q (.str (Txt.stripChars a b)) H
abbrev rFind : V → List V → Hp → VK → Prop := fun x xs H Q => ∃ a b, x = .str a ∧ xs = [.str b] ∧ Q (.int (Txt.find a b)) H
abbrev tIpMul : TIp := fun x y H Q => ∃ i j, x = .int i ∧ y = .int j ∧ CMul i j ∧ Q (.int (i * j)) H
/-! ### slices -/
section
variable {α : Type} (xs : List α)
theorem cutL_lo (k : Nat) : cutL xs (some (k : Int)) none = xs.drop k := by
  unfold cutL
  rw [HT.sIx_nat, HT.sIx_none]
  by_cases h : k ≤ xs.length
  · rw [Nat.min_eq_left h, List.take_of_length_le (by rw [List.length_drop]; exact Nat.le_refl _)]
  · rw [Nat.min_eq_right (by omega), List.drop_of_length_le (Nat.le_refl _), List.take_nil, List.drop_of_length_le (by omega)]
theorem cutL_hi (k : Nat) : cutL xs none (some (k : Int)) = xs.take k := by
  unfold cutL
  rw [HT.sIx_nat, HT.sIx_none, List.drop_zero, Nat.sub_zero]
  by_cases h : k ≤ xs.length
  · rw [Nat.min_eq_left h]
  · rw [Nat.min_eq_right (by omega), List.take_length, List.take_of_length_le (by omega)]
theorem cutL_lohi (j k : Nat) : cutL xs (some (j : Int)) (some (k : Int)) = (xs.take k).drop j := by
  unfold cutL
  rw [HT.sIx_nat, HT.sIx_nat, List.drop_take]
  by_cases h : j ≤ xs.length
  · rw [Nat.min_eq_left h]
    by_cases h2 : k ≤ xs.length
    · rw [Nat.min_eq_left h2]
    · rw [Nat.min_eq_right (show xs.length ≤ k by omega), List.take_of_length_le (by rw [List.length_drop]; exact Nat.le_refl _), List.take_of_length_le (by rw [List.length_drop]; omega)]
  · rw [Nat.min_eq_right (show xs.length ≤ j by omega), List.drop_of_length_le (Nat.le_refl _), List.take_nil, List.drop_of_length_le (show xs.length ≤ j by omega), List.take_nil]
theorem cutL_hiNeg : cutL xs none (some (-1)) = xs.dropLast := by
  unfold cutL
  rw [show HT.sIx xs.length 0 none = 0 from rfl, List.drop_zero, Nat.sub_zero]
  have e : HT.sIx xs.length xs.length (some (-1)) = xs.length - 1 := by
    unfold HT.sIx
    show (if (-1 : Int) < 0 then ((-1 : Int) + (xs.length : Int)).toNat else min (-1 : Int).toNat xs.length) = _
    rw [if_pos (by decide)]
    omega
  rw [e, List.dropLast_eq_take]
theorem cutL_len (lo hi : Option Int) : (cutL xs lo hi).length ≤ xs.length := by
  unfold cutL
  rw [List.length_take, List.length_drop]
  omega
end
section
variable {K : Frag} {σ : L2.St} {H H' H0 : Hp} {Q : VK} {v x y z : V}
theorem x_slSlo {l : List Nat} {k : Nat} (h : l.length ≤ sizeLine) (q : Q (.str (ST (l.drop k))) H) : rSlU K (.str (ST l)) (some (k : Int)) none H Q := x_slS h (by rw [cutL_lo]; exact q)
theorem x_slShi {l : List Nat} {k : Nat} (h : l.length ≤ sizeLine) (q : Q (.str (ST (l.take k))) H) : rSlU K (.str (ST l)) none (some (k : Int)) H Q := x_slS h (by rw [cutL_hi]; exact q)
theorem x_slSlohi {l : List Nat} {j k : Nat} (h : l.length ≤ sizeLine) (q : Q (.str (ST ((l.take k).drop j))) H) : rSlU K (.str (ST l)) (some (j : Int)) (some (k : Int)) H Q := x_slS h (by rw [cutL_lohi]; exact q)
theorem x_slSloI {l : List Nat} {i : Int} (h0 : 0 ≤ i) (h : l.length ≤ sizeLine) (q : Q (.str (ST (l.drop i.toNat))) H) : rSlU K (.str (ST l)) (some i) none H Q := by
  rw [← Int.toNat_of_nonneg h0]
  exact x_slSlo h q
theorem x_slShiI {l : List Nat} {i : Int} (h0 : 0 ≤ i) (h : l.length ≤ sizeLine) (q : Q (.str (ST (l.take i.toNat))) H) : rSlU K (.str (ST l)) none (some i) H Q := by
  rw [← Int.toNat_of_nonneg h0]
  exact x_slShi h q
theorem x_slShiNeg {l : List Nat} (h : l.length ≤ sizeLine) (q : Q (.str (ST l.dropLast)) H) : rSlU K (.str (ST l)) none (some (-1)) H Q := x_slS h (by rw [cutL_hiNeg]; exact q)
theorem x_slLlo {a : Addr} {xs : List V} {k : Nat} (h : SqL K H a xs) (q : ∀ p H', H p = none → Ex H H' → H' p = some (.lst (xs.drop k)) → Q (.ref p) H') : rSlU K (.ref a) (some (k : Int)) none H Q :=
  x_slL h fun p H' h1 h2 h3 => q p H' h1 h2 (by rw [cutV_eq, cutL_lo] at h3; exact h3)
theorem x_slLhi {a : Addr} {xs : List V} {k : Nat} (h : SqL K H a xs) (q : ∀ p H', H p = none → Ex H H' → H' p = some (.lst (xs.take k)) → Q (.ref p) H') : rSlU K (.ref a) none (some (k : Int)) H Q :=
  x_slL h fun p H' h1 h2 h3 => q p H' h1 h2 (by rw [cutV_eq, cutL_hi] at h3; exact h3)
theorem x_slLlohi {a : Addr} {xs : List V} {j k : Nat} (h : SqL K H a xs) (q : ∀ p H', H p = none → Ex H H' → H' p = some (.lst ((xs.take k).drop j)) → Q (.ref p) H') : rSlU K (.ref a) (some (j : Int)) (some (k : Int)) H Q :=
  x_slL h fun p H' h1 h2 h3 => q p H' h1 h2 (by rw [cutV_eq, cutL_lohi] at h3; exact h3)
theorem x_slLhiNeg {a : Addr} {xs : List V} (h : SqL K H a xs) (q : ∀ p H', H p = none → Ex H H' → H' p = some (.lst xs.dropLast) → Q (.ref p) H') : rSlU K (.ref a) none (some (-1)) H Q :=
  x_slL h fun p H' h1 h2 h3 => q p H' h1 h2 (by rw [cutV_eq, cutL_hiNeg] at h3; exact h3)
/-! ### indexes -/
theorem atI_pos {α : Type} {xs : List α} {i : Int} (h0 : 0 ≤ i) (h1 : i < xs.length) : ∃ v, atI xs i = some v ∧ v ∈ xs ∧ xs[i.toNat]? = some v := by
  have hl : i.toNat < xs.length := by omega
  refine ⟨xs[i.toNat], ?_, List.getElem_mem hl, List.getElem?_eq_getElem hl⟩
  have e : i = ((i.toNat : Nat) : Int) := (Int.toNat_of_nonneg h0).symm
  have := atI_nat (xs := xs) (j := i.toNat) (v := xs[i.toNat]) (List.getElem?_eq_getElem hl)
  rw [← e] at this
  exact this
theorem atI_neg1 {α : Type} {xs : List α} (h : xs ≠ []) : ∃ v, atI xs (-1) = some v ∧ v ∈ xs ∧ xs.getLast? = some v := by
  refine ⟨xs.getLast h, ?_, List.getLast_mem h, List.getLast?_eq_some_getLast h⟩
  have e := List.dropLast_concat_getLast h
  have := atI_last xs.dropLast (xs.getLast h)
  rw [e] at this
  exact this
/-- an item of a list at a place within -/
theorem x_ixLm {p : Addr} {xs : List V} {i : Int} (h : SqL K H p xs) (h0 : 0 ≤ i) (h1 : i < xs.length) (q : ∀ v, v ∈ xs → xs[i.toNat]? = some v → Q v H) : rIx K (.ref p) (.int i) H Q := by
  obtain ⟨v, a, b, c⟩ := atI_pos h0 h1
  exact x_ixL h a (q v b c)
theorem x_ixSm {l : List Nat} {i : Int} (hz : l.length ≤ sizeLine) (h0 : 0 ≤ i) (h1 : i < l.length) (q : ∀ c, c ∈ l → l[i.toNat]? = some c → Q (.str (ST [c])) H) : rIx K (.str (ST l)) (.int i) H Q := by
  obtain ⟨v, a, b, c⟩ := atI_pos h0 h1
  exact x_ixS hz a (q v b c)
theorem x_ixSn {l : List Nat} {k : Nat} {c : Nat} (hz : l.length ≤ sizeLine) (h : l[k]? = some c) (q : Q (.str (ST [c])) H) : rIx K (.str (ST l)) (.int (k : Int)) H Q := x_ixS hz (atI_nat h) q
theorem x_ixSlast {l : List Nat} (hz : l.length ≤ sizeLine) (h0 : l ≠ []) (q : ∀ c, c ∈ l → l.getLast? = some c → Q (.str (ST [c])) H) : rIx K (.str (ST l)) (.int (-1)) H Q := by
  obtain ⟨v, a, b, c⟩ := atI_neg1 h0
  exact x_ixS hz a (q v b c)
theorem x_ixLlast {p : Addr} {xs : List V} (h : SqL K H p xs) (h0 : xs ≠ []) (q : ∀ v, v ∈ xs → xs.getLast? = some v → Q v H) : rIx K (.ref p) (.int (-1)) H Q := by
  obtain ⟨v, a, b, c⟩ := atI_neg1 h0
  exact x_ixL h a (q v b c)
/-! ### == of lists of texts -/
/-- the codes that the model compares as data -/
def Okc (l : List Nat) : Prop := PyData.strOk (ST l) = true
def dtx (ls : List (List Nat)) : List PyData := ls.map fun l => .str (ST l)
theorem dpAll_tx : ∀ ls : List (List Nat), DpAll K H (tx ls) (dtx ls)
  | [] => .nil
  | l :: ls => .cons (.str _) (dpAll_tx ls)
theorem dp_tx {p : Addr} {ls : List (List Nat)} (h : SqL K H p (tx ls)) : Dp K H (.ref p) (.list (dtx ls)) := .lst h (dpAll_tx ls)
theorem depth_tx : ∀ ls : List (List Nat), PyData.depthAll (dtx ls) = 0
  | [] => rfl
  | l :: r => by
    show max (PyData.depth (.str (ST l))) (PyData.depthAll (dtx r)) = 0
    rw [depth_tx r]
    rfl
theorem lay_tx : ∀ ls : List (List Nat), (∀ l ∈ ls, Okc l) → PyData.canLayAll0 (dtx ls) = true
  | [], _ => rfl
  | l :: r, h => by
    show (PyData.canLay0 (.str (ST l)) && PyData.canLayAll0 (dtx r)) = true
    rw [lay_tx r fun m hm => h m (List.mem_cons_of_mem _ hm), Bool.and_true]
    show PyData.canLay0 (.str (ST l)) = true
    have := h l List.mem_cons_self
    unfold PyData.canLay0
    exact this
theorem shaped_tx {ls : List (List Nat)} (h : ∀ l ∈ ls, Okc l) : SeqAt.shaped (.list (dtx ls)) = true := by
  unfold SeqAt.shaped
  rw [Bool.and_eq_true]
  refine ⟨?_, ?_⟩
  · show PyData.canLay0 (.list (dtx ls)) = true
    unfold PyData.canLay0
    exact lay_tx ls h
  · show decide (PyData.depthAll (dtx ls) + 1 ≤ 64) = true
    rw [depth_tx]
    rfl
theorem eqv_tx : ∀ ls ms : List (List Nat), PyData.eqvAll (dtx ls) (dtx ms) = decide (ls = ms)
  | [], [] => rfl
  | [], _ :: _ => rfl
  | _ :: _, [] => rfl
  | l :: ls, m :: ms => by
    show (PyData.eqv (.str (ST l)) (.str (ST m)) && PyData.eqvAll (dtx ls) (dtx ms)) = _
    rw [eqv_tx ls ms]
    show ((ST l == ST m) && decide (ls = ms)) = _
    have e : (ST l == ST m) = decide (l = m) := by
      rw [Bool.beq_eq_decide_eq]
      by_cases h : l = m
      · subst h
        rw [decide_eq_true rfl, decide_eq_true rfl]
      · rw [decide_eq_false h, decide_eq_false fun q => h (ST_inj.mp q)]
    rw [e]
    by_cases h : l = m
    · subst h
      by_cases h2 : ls = ms
      · subst h2
        simp
      · simp [h2]
    · simp [h]
theorem x_eqTx {p p' : Addr} {ls ms : List (List Nat)} (h1 : SqL K H p (tx ls)) (h2 : SqL K H p' (tx ms)) (o1 : ∀ l ∈ ls, Okc l) (o2 : ∀ l ∈ ms, Okc l) (q : Q (.bl (decide (ls = ms))) H) : uEq K (.ref p) (.ref p') H Q :=
  x_eqD (dp_tx h1) (dp_tx h2) (shaped_tx o1) (shaped_tx o2) (by show Q (.bl (PyData.eqvAll (dtx ls) (dtx ms))) H; rw [eqv_tx]; exact q)
theorem x_neTx {p p' : Addr} {ls ms : List (List Nat)} (h1 : SqL K H p (tx ls)) (h2 : SqL K H p' (tx ms)) (o1 : ∀ l ∈ ls, Okc l) (o2 : ∀ l ∈ ms, Okc l) (q : Q (.bl (!decide (ls = ms))) H) : uNe K (.ref p) (.ref p') H Q :=
  x_neD (dp_tx h1) (dp_tx h2) (shaped_tx o1) (shaped_tx o2) (by show Q (.bl (!PyData.eqvAll (dtx ls) (dtx ms))) H; rw [eqv_tx]; exact q)
/-! ### lists of ixs -/
def ixs (ns : List Int) : List V := ns.map V.int
def dints (ns : List Int) : List PyData := ns.map PyData.int
theorem dpAll_ints : ∀ ns : List Int, DpAll K H (ixs ns) (dints ns)
  | [] => .nil
  | _ :: ns => .cons (.int _) (dpAll_ints ns)
theorem depth_ints : ∀ ns : List Int, PyData.depthAll (dints ns) = 0
  | [] => rfl
  | l :: r => by
    show max (PyData.depth (.int l)) (PyData.depthAll (dints r)) = 0
    rw [depth_ints r]
    rfl
theorem lay_ints : ∀ ns : List Int, PyData.canLayAll0 (dints ns) = true
  | [] => rfl
  | l :: r => by
    show (PyData.canLay0 (.int l) && PyData.canLayAll0 (dints r)) = true
    rw [lay_ints r]
    unfold PyData.canLay0
    rfl
theorem shaped_ints (ns : List Int) : SeqAt.shaped (.list (dints ns)) = true := by
  unfold SeqAt.shaped
  rw [Bool.and_eq_true]
  refine ⟨?_, ?_⟩
  · show PyData.canLay0 (.list (dints ns)) = true
    unfold PyData.canLay0
    exact lay_ints ns
  · show decide (PyData.depthAll (dints ns) + 1 ≤ 64) = true
    rw [depth_ints]
    rfl
theorem eqv_ints : ∀ ls ms : List Int, PyData.eqvAll (dints ls) (dints ms) = decide (ls = ms)
  | [], [] => rfl
  | [], _ :: _ => rfl
  | _ :: _, [] => rfl
  | l :: ls, m :: ms => by
    show (PyData.eqv (.int l) (.int m) && PyData.eqvAll (dints ls) (dints ms)) = _
    rw [eqv_ints ls ms]
    show ((l == m) && decide (ls = ms)) = _
    by_cases h : l = m
    · subst h
      by_cases h2 : ls = ms
      · subst h2
        simp
      · simp [h2]
    · simp [h]
theorem x_eqIs {p p' : Addr} {ls ms : List Int} (h1 : SqL K H p (ixs ls)) (h2 : SqL K H p' (ixs ms)) (q : Q (.bl (decide (ls = ms))) H) : uEq K (.ref p) (.ref p') H Q :=
  x_eqD (.lst h1 (dpAll_ints ls)) (.lst h2 (dpAll_ints ms)) (shaped_ints ls) (shaped_ints ms) (by show Q (.bl (PyData.eqvAll (dints ls) (dints ms))) H; rw [eqv_ints]; exact q)
theorem x_neIs {p p' : Addr} {ls ms : List Int} (h1 : SqL K H p (ixs ls)) (h2 : SqL K H p' (ixs ms)) (q : Q (.bl (!decide (ls = ms))) H) : uNe K (.ref p) (.ref p') H Q :=
  x_neD (.lst h1 (dpAll_ints ls)) (.lst h2 (dpAll_ints ms)) (shaped_ints ls) (shaped_ints ms) (by show Q (.bl (!PyData.eqvAll (dints ls) (dints ms))) H; rw [eqv_ints]; exact q)
/-! ### calls -/
theorem x_call0 {sp : Sp} {E : XK} {tr : TA} (q : tr σ H fun vs H1 => sp vs H1 Q E) : tCall sp [] E tr σ H Q := by
  show tr σ H fun vs H1 => sp (vs ++ []) H1 Q E
  have e : (fun vs H1 => sp (vs ++ []) H1 Q E) = fun vs H1 => sp vs H1 Q E := by
    funext vs H1
    rw [List.append_nil]
  rw [e]
  exact q
/-! ### in of texts -/
theorem inV_tx (l : List Nat) : ∀ ls : List (List Nat), inV (.str (ST l)) (tx ls) = decide (l ∈ ls)
  | [] => by rfl
  | m :: ls => by
    have ih := inV_tx l ls
    unfold inV at ih ⊢
    show (eqV (.str (ST m)) (.str (ST l)) || (tx ls).any fun y => eqV y (.str (ST l))) = _
    rw [ih]
    have e : eqV (.str (ST m)) (.str (ST l)) = decide (l = m) := by
      show (ST m == ST l) = _
      rw [Bool.beq_eq_decide_eq]
      by_cases h : l = m
      · subst h
        rw [decide_eq_true rfl, decide_eq_true rfl]
      · rw [decide_eq_false h, decide_eq_false fun q => h (ST_inj.mp q).symm]
    rw [e]
    by_cases h : l = m
    · subst h
      simp
    · simp [h]
theorem flat_tx : ∀ ls : List (List Nat), (tx ls).all flatV = true
  | [] => rfl
  | _ :: ls => by
    show (true && (tx ls).all flatV) = true
    rw [flat_tx ls]
    rfl
theorem x_inTx {p : Addr} {l : List Nat} {ls : List (List Nat)} (h : SqL K H p (tx ls)) (q : Q (.bl (decide (l ∈ ls))) H) : uIn K (.str (ST l)) (.ref p) H Q := x_inL h rfl (flat_tx ls) (by rw [inV_tx]; exact q)
theorem x_notinTx {p : Addr} {l : List Nat} {ls : List (List Nat)} (h : SqL K H p (tx ls)) (q : Q (.bl (!decide (l ∈ ls))) H) : uNotIn K (.str (ST l)) (.ref p) H Q := x_notinL h rfl (flat_tx ls) (by rw [inV_tx]; exact q)
/-! ### words -/
def Letter (c : Nat) : Prop := 97 ≤ c ∧ c ≤ 122
def Letters (l : List Nat) : Prop := ∀ c ∈ l, Letter c
theorem Letters.app {a b : List Nat} (h : Letters a) (h2 : Letters b) : Letters (a ++ b) := fun c hc => (List.mem_append.mp hc).elim (h c) (h2 c)
theorem Letters.take {a : List Nat} (h : Letters a) (k : Nat) : Letters (a.take k) := fun c hc => h c (List.mem_of_mem_take hc)
theorem Letters.drop {a : List Nat} (h : Letters a) (k : Nat) : Letters (a.drop k) := fun c hc => h c (List.mem_of_mem_drop hc)
theorem Letters.rep {a : List Nat} (h : Letters a) (n : Nat) : Letters (rep n a) := fun c hc => by
  unfold RW.rep at hc
  rw [List.mem_flatten] at hc
  obtain ⟨l, hl, hc⟩ := hc
  rw [(List.mem_replicate.mp hl).2] at hc
  exact h c hc
theorem Letters.rev {a : List Nat} (h : Letters a) : Letters a.reverse := fun c hc => h c (List.mem_reverse.mp hc)
theorem Letters.okc {a : List Nat} (h : Letters a) : Okc a := by
  unfold Okc PyData.strOk
  show (a.toArray).all _ = true
  rw [List.all_toArray, List.all_eq_true]
  intro c hc
  have := h c hc
  unfold Letter at this
  exact decide_eq_true (by omega)

section
variable {K : Frag} {σ : L2.St} {H H' H0 : Hp} {Q : VK} {te : TE} {vs : List Nat} {j : Nat}
/-- any walk without ifs, each turn's value told by a word -/
theorem lc_anyP {J : It} {n : Nat} (it : Nat → V) (P : Nat → V → Prop) (hn : n ≤ 16000000) (h1 : ∀ i H', Ex H H' → i < n → J.go i H') (h2 : ∀ H', Ex H H' → J.stop n H') (h3 : ∀ i H' x H'', Ex H H' → i < n → J.yld i H' x H'' → x = it i ∧ H'' = H')
    (hw : ∀ x, wipe ((wipe σ vs).set j (some x)) vs = wipe σ vs)
    (hb : ∀ (i : Nat) (H' : Hp), i < n → Ex H H' → ∀ R : VK, (∀ (y : V) (H4 : Hp), P i y → Ex H' H4 → R y H4) → te ((wipe σ vs).set j (some (it i))) H' R)
    (q : ∀ (ys : List V) (p : Addr) (H' : Hp), ys.length = n → (∀ (i : Nat) (y : V), ys[i]? = some y → P i y) → H p = none → Ex H H' → H' p = some (.lst ys) → Q (.ref p) H') : lcGo J (gName j) tYes te vs σ H Q := by
  intro Dl hD
  refine ⟨fun i m H' => m = n - i ∧ i ≤ n ∧ ∃ ys : List V, ys.length = i ∧ (∀ k y, ys[k]? = some y → P k y) ∧ Cg H Dl ys H', ⟨n, by omega, Nat.zero_le _, [], rfl, fun k y h => by simp at h, hD, Evl.Ex.new hD, upd_same⟩, ?_⟩
  rintro i m H' ⟨rfl, hi, ys, hl, hp, c1, c2, c3⟩
  by_cases hlt : i < n
  · refine .inr ⟨h1 i H' c2 hlt, fun H'' => ∃ ys : List V, ys.length = i + 1 ∧ (∀ k y, ys[k]? = some y → P k y) ∧ Cg H Dl ys H'', fun H'' c => ⟨n - (i + 1), by omega, rfl, hlt, c⟩, fun x H'' hy => ?_⟩
    obtain ⟨rfl, rfl⟩ := h3 i H' x H'' c2 hlt hy
    refine ⟨hw _, x_yes (x_it rfl (hb i H'' hlt c2 _ fun y H4 hP e => ⟨ys, e _ _ c3, ?_, ys ++ [y], ?_, ?_, c1, Evl.Ex.mut (Ex.trs c2 e) c1, upd_same⟩))⟩
    · rw [sizeLine_eq]
      omega
    · rw [List.length_append, hl]
      rfl
    · intro k y' hk
      by_cases hki : k < ys.length
      · rw [List.getElem?_append_left hki] at hk
        exact hp k y' hk
      · rw [List.getElem?_append_right (by omega)] at hk
        have e0 : k - ys.length = 0 := by
          have := (List.getElem?_eq_some_iff.mp hk).1
          simp only [List.length_cons, List.length_nil] at this
          omega
        rw [e0] at hk
        have ek : k = i := by omega
        subst ek
        obtain rfl : y = y' := Option.some.inj hk
        exact hP
  · obtain rfl : i = n := by omega
    exact .inl ⟨h2 H' c2, q ys Dl H' hl hp c1 c2 c3⟩
theorem x_lcRp {n : Nat} {lo : Int} (P : Nat → V → Prop) (hn : n ≤ 16000000) (hw : ∀ x, wipe ((wipe σ vs).set j (some x)) vs = wipe σ vs)
    (hb : ∀ (i : Nat) (H' : Hp), i < n → Ex H H' → ∀ R : VK, (∀ (y : V) (H4 : Hp), P i y → Ex H' H4 → R y H4) → te ((wipe σ vs).set j (some (.int (lo + (i : Int))))) H' R)
    (q : ∀ (ys : List V) (p : Addr) (H' : Hp), ys.length = n → (∀ (i : Nat) (y : V), ys[i]? = some y → P i y) → H p = none → Ex H H' → H' p = some (.lst ys) → Q (.ref p) H') : lcGo (Itr lo n) (gName j) tYes te vs σ H Q :=
  lc_anyP (fun i => .int (lo + (i : Int))) P hn (fun _ _ _ h => h) (fun _ _ => Nat.le_refl _) (fun _ _ _ _ _ _ hy => ⟨hy.2, hy.1⟩) hw hb q
theorem x_lcLp {a : Addr} {xs : List V} (hx : SqL K H a xs) (P : V → V → Prop) (hn : xs.length ≤ 16000000) (hw : ∀ x, wipe ((wipe σ vs).set j (some x)) vs = wipe σ vs)
    (hb : ∀ (x : V) (H' : Hp), x ∈ xs → Ex H H' → ∀ R : VK, (∀ (y : V) (H4 : Hp), P x y → Ex H' H4 → R y H4) → te ((wipe σ vs).set j (some x)) H' R)
    (q : ∀ (ys : List V) (p : Addr) (H' : Hp), ys.length = xs.length → (∀ (i : Nat) (y : V), ys[i]? = some y → ∃ x, xs[i]? = some x ∧ P x y) → H p = none → Ex H H' → H' p = some (.lst ys) → Q (.ref p) H') : lcGo (Itl K a) (gName j) tYes te vs σ H Q := by
  refine lc_anyP (n := xs.length) (fun i => xs.getD i .non) (fun i y => ∃ x, xs[i]? = some x ∧ P x y) hn (fun i H' e hi => ⟨xs, xs[i], ex_l e hx, by simp [hi]⟩) (fun H' e => ⟨xs, ex_l e hx, Nat.le_refl _⟩)
    (fun i H' x H'' e hi hy => ⟨?_, hy.1⟩) hw (fun i H' hi e R h1 => ?_) q
  · have := hy.2 xs (ex_l e hx)
    rw [List.getD_eq_getElem?_getD, this]
    rfl
  · have h5 : xs[i]? = some (xs.getD i .non) := by
      rw [List.getD_eq_getElem?_getD, List.getElem?_eq_getElem hi]
      rfl
    exact hb _ H' (List.mem_of_getElem? h5) e R fun y H4 hP e4 => h1 y H4 ⟨_, h5, hP⟩ e4
theorem tx_ex {P : List Nat → Prop} : ∀ {ys : List V}, (∀ y ∈ ys, ∃ l, y = .str (ST l) ∧ P l) → ∃ ls, ys = tx ls ∧ ∀ l ∈ ls, P l
  | [], _ => ⟨[], rfl, fun _ h => absurd h (by simp)⟩
  | y :: ys, h => by
    obtain ⟨l, rfl, hl⟩ := h y List.mem_cons_self
    obtain ⟨ls, rfl, hls⟩ := tx_ex fun z hz => h z (List.mem_cons_of_mem _ hz)
    refine ⟨l :: ls, rfl, fun m hm => ?_⟩
    rcases List.mem_cons.mp hm with rfl | hm
    · exact hl
    · exact hls m hm
end
end
end RW

/-! U9: for over enumerate(list), over a list of pairs. -/
namespace RW
open PySem PySem.Spec PyProof.Rows L2
open Evl (Ex ex_l ex_t ex_rd fresh_back)
section
variable {K : Frag} {σ : L2.St} {H H' H0 : Hp} {Q : VK} {tu : TS} {g : TG} {D : Ends} {nx bk ct : L2.St → Hp → Prop} {rt : VK}
theorem x_forEnum {tA : TA} (q : tA σ H fun ws H1 => ∃ (a : Addr) (xs : List V), ws = [.ref a] ∧ SqL K H1 a xs ∧ tFor (fun _ H R => R (Ite K a) H) g tu D σ H1) : tFor (iEnum K tA) g tu D σ H := q
/-- for i, x in enumerate(xs), the list standing -/
theorem x_forE {α : Type} {i j : Nat} {a : Addr} {xs : List V} (st : Nat → α → L2.St) (I : Nat → α → Hp → Prop) (a0 : α) (h0 : σ = st 0 a0) (hI : I 0 a0 H) (hl : ∀ k a' H, I k a' H → SqL K H a xs)
    (hs : ∀ (k : Nat) (v : V) (a' : α) (H' H2 : Hp), xs[k]? = some v → I k a' H' → Ex H' H2 → tu ⟨fun σ' H' => ∃ a', σ' = st (k + 1) a' ∧ I (k + 1) a' H', rt, nx, fun σ' H' => ∃ a', σ' = st (k + 1) a' ∧ I (k + 1) a' H'⟩ (((st k a').set i (some (.int (k : Int)))).set j (some v)) H2)
    (hd : ∀ a' H, I xs.length a' H → nx (st xs.length a') H) : tFor (fun _ H R => R (Ite K a) H) (gTup K 2 (gCons (gName i) (gCons (gName j) gNil))) tu ⟨nx, rt, bk, ct⟩ σ H := by
  refine ⟨fun k m σ' H' => m = xs.length - k ∧ k ≤ xs.length ∧ ∃ a', σ' = st k a' ∧ I k a' H', ⟨xs.length, by omega, Nat.zero_le _, a0, h0, hI⟩, ?_⟩
  rintro k m σ' H' ⟨rfl, hk, a', rfl, p⟩
  have q := hl k a' H' p
  by_cases hlt : k < xs.length
  · have hxk : xs[k]? = some xs[k] := List.getElem?_eq_getElem hlt
    refine .inr ⟨⟨xs, _, q, hxk⟩, fun σ' H' => ∃ a', σ' = st (k + 1) a' ∧ I (k + 1) a' H', fun σ'' H'' ⟨a'', e, p'⟩ => ⟨xs.length - (k + 1), by omega, rfl, hlt, a'', e, p'⟩, fun v H'' hy => ?_⟩
    obtain ⟨T, x, rfl, hT, rfl, f1⟩ := hy
    have e1 := f1 xs q
    have eT : Ex H' (upd H' T (.tup [.int (k : Int), x])) := Evl.Ex.new hT
    exact x_gtup (xs := [.int (k : Int), x]) upd_same rfl (x_gcons (x_gcons (x_gnil (hs k x a' H' _ e1 p eT))))
  · obtain rfl : k = xs.length := by omega
    exact .inl ⟨⟨xs, q, by omega⟩, hd a' H' p⟩
/-- for (i, j) in a list of pairs that stand -/
theorem x_forP {α : Type} {i j : Nat} {a : Addr} {xs : List V} (st : Nat → α → L2.St) (I : Nat → α → Hp → Prop) (a0 : α) (h0 : σ = st 0 a0) (hI : I 0 a0 H) (hl : ∀ k a' H, I k a' H → SqL K H a xs)
    (hs : ∀ (k : Nat) (v : V) (a' : α) (H' : Hp), xs[k]? = some v → I k a' H' → ∃ u w t, v = .ref t ∧ H' t = some (.tup [u, w]) ∧ tu ⟨fun σ' H' => ∃ a', σ' = st (k + 1) a' ∧ I (k + 1) a' H', rt, nx, fun σ' H' => ∃ a', σ' = st (k + 1) a' ∧ I (k + 1) a' H'⟩ (((st k a').set i (some u)).set j (some w)) H')
    (hd : ∀ a' H, I xs.length a' H → nx (st xs.length a') H) : tFor (fun _ H R => R (Itl K a) H) (gTup K 2 (gCons (gName i) (gCons (gName j) gNil))) tu ⟨nx, rt, bk, ct⟩ σ H := by
  refine for_list (D := ⟨nx, rt, bk, ct⟩) (K := K) (a := a) (xs := xs) (tb := tu) (fun k σ' H' => ∃ a', σ' = st k a' ∧ I k a' H') ⟨a0, h0, hI⟩ ?_ ?_ ?_
  · rintro k σ' H' _ ⟨a', rfl, h⟩
    exact hl k a' H' h
  · rintro k v σ' H' hk ⟨a', rfl, h⟩
    obtain ⟨u, w, t, rfl, ht, q⟩ := hs k v a' H' hk h
    exact x_gtup ht rfl (x_gcons (x_gcons (x_gnil q)))
  · rintro σ' H' ⟨a', rfl, h⟩
    exact hd a' H' h
end
end RW

/-! V4: sorted of a list of pairs (an int, a text). -/
namespace SrtO
open PySem PySem.Spec PyProof.Rows Srt
section
variable {prog : Program} {w : World} {A : Around} {E : Value → Shared → Prop} {s : Shared}
/-- a pair of an int and a text -/
def IsPairS (h : Heap) (v : Value) (x : Int) (y : PySem.Str) : Prop := ∃ a o t u n, v = .ref a ∧ h.get? a = some o ∧ o.cls = .type "tuple" ∧ o.data = .seq #[.int x t, .str y u] n
theorem IsPairS.keeps {h h' : Heap} {v : Value} {x : Int} {y : PySem.Str} (p : IsPairS h v x y) (k : ∀ b o, h.get? b = some o → o.cls = .type "tuple" → h'.get? b = some o) : IsPairS h' v x y := by
  obtain ⟨a, o, t, u, n, e, h1, h2, h3⟩ := p
  exact ⟨a, o, t, u, n, e, k a o h1 h2, h2, h3⟩
def lexS (p q : Int × PySem.Str) : Bool := if p.1 = q.1 then decide (p.2.cps.toList < q.2.cps.toList) else decide (p.1 < q.1)
theorem lexS_iff {p q : Int × PySem.Str} : lexS p q = true ↔ p.1 < q.1 ∨ (p.1 = q.1 ∧ p.2.cps.toList < q.2.cps.toList) := by
  unfold lexS
  by_cases e : p.1 = q.1
  · rw [if_pos e, decide_eq_true_eq]
    constructor
    · exact fun h => .inr ⟨e, h⟩
    · rintro (h | h)
      · omega
      · exact h.2
  · rw [if_neg e, decide_eq_true_eq]
    constructor
    · exact .inl
    · rintro (h | h)
      · exact h
      · exact absurd h.1 e
theorem lexS_no {p q : Int × PySem.Str} : lexS p q = false ↔ ¬ (p.1 < q.1 ∨ (p.1 = q.1 ∧ p.2.cps.toList < q.2.cps.toList)) := by
  rw [← lexS_iff]
  cases lexS p q <;> simp
theorem swo_lexS (k : Value → Int × PySem.Str) : Swo fun v u => lexS (k v) (k u) := by
  refine ⟨fun x y h => ?_, fun x y z h1 h2 => ?_⟩
  · have a := lexS_iff.mp h
    refine lexS_no.mpr ?_
    rintro (b | ⟨b, c⟩)
    · rcases a with a | ⟨a, _⟩ <;> omega
    · rcases a with a | ⟨_, a⟩
      · omega
      · exact absurd a (List.lt_asymm c)
  · have a := lexS_no.mp h1
    have b := lexS_no.mp h2
    refine lexS_no.mpr ?_
    rintro (c | ⟨c, d⟩)
    · have a1 : ¬ (k y).1 < (k x).1 := fun h => a (.inl h)
      have b1 : ¬ (k z).1 < (k y).1 := fun h => b (.inl h)
      omega
    · have a1 : ¬ (k y).1 < (k x).1 := fun h => a (.inl h)
      have b1 : ¬ (k z).1 < (k y).1 := fun h => b (.inl h)
      have e1 : (k y).1 = (k x).1 := by omega
      have e2 : (k z).1 = (k y).1 := by omega
      have a2 : ¬ (k y).2.cps.toList < (k x).2.cps.toList := fun h => a (.inr ⟨e1, h⟩)
      have b2 : ¬ (k z).2.cps.toList < (k y).2.cps.toList := fun h => b (.inr ⟨e2, h⟩)
      exact absurd d (List.not_lt.mpr (List.le_trans (List.not_lt.mp a2) (List.not_lt.mp b2)))
theorem pairS_cmp {vs : List Value} {k : Value → Int × PySem.Str} (hp : ∀ v ∈ vs, IsPairS s.heap v (k v).1 (k v).2) : Cmp prog w A s (tuples' true) (fun p => p.1 ∈ vs) (lt2 fun v u => lexS (k v) (k u)) := by
  intro p q hm hm'
  have h1 := hp _ hm
  have h2 := hp _ hm'
  show wpAny (model prog w) A (keyLt' (tuples' true) p.1 q.1) (fun r s' => s' = s ∧ r = lexS (k p.1) (k q.1)) (fun _ _ => False) s
  unfold lexS
  generalize (k p.1).1 = x at h1 ⊢
  generalize (k p.1).2 = y at h1 ⊢
  generalize (k q.1).1 = x' at h2 ⊢
  generalize (k q.1).2 = y' at h2 ⊢
  obtain ⟨a, o, t, u, n, e, ho, hc, hd⟩ := h1
  obtain ⟨a', o', t', u', n', e', ho', hc', hd'⟩ := h2
  rw [e, e']
  refine PySem.W.kat_lt ho hd ho' hd' ?_
  show PySem.W.KatLex prog w A true (decide (2 < 2)) _ [(.int x t, .int x' t'), (.str y u, .str y' u')] 0 s
  refine PySem.W.kat_cons (SeqAt.EqAt.int_int x t x' t' prog w _ _ ?_)
  refine PySem.W.kat_go (fun e1 => ?_) (fun e1 => ?_)
  · have ex : x = x' := by simpa using e1
    refine PySem.W.kat_yes (PySem.W.kat_cons (SeqAt.EqAt.str_str y u y' u' prog w _ _ ?_))
    refine PySem.W.kat_go (fun e2 => ?_) (fun e2 => ?_)
    · have ey : y = y' := by simpa using e2
      have e3 : (if x = x' then decide (y.cps.toList < y'.cps.toList) else decide (x < x')) = false := by
        rw [if_pos ex, ey]
        exact decide_eq_false (List.lt_irrefl _)
      exact PySem.W.kat_yes (PySem.W.kat_nil ⟨rfl, e3.symm⟩)
    · have e3 : (if x = x' then decide (y.cps.toList < y'.cps.toList) else decide (x < x')) = decide (y.cps.toList < y'.cps.toList) := if_pos ex
      refine PySem.W.kat_no (PySem.W.kat_one _ _ (PyProof.Rows.lt_str ?_))
      exact (show s = s ∧ decide (y.cps.toList < y'.cps.toList) = (if x = x' then decide (y.cps.toList < y'.cps.toList) else decide (x < x')) from ⟨rfl, e3.symm⟩)
  · have ex : ¬ x = x' := by simpa using e1
    have e3 : (if x = x' then decide (y.cps.toList < y'.cps.toList) else decide (x < x')) = decide (x < x') := if_neg ex
    exact PySem.W.kat_no (oneLt_int ⟨rfl, e3.symm⟩)
theorem firstsS_of {h : Heap} : ∀ {vs : List Value}, (∀ v ∈ vs, ∃ x y, IsPairS h v x y) → ∃ fs : List Value, PySem.W.KatTups h vs fs ∧ fs.length = vs.length ∧ ∀ f ∈ fs, ∃ x t, f = Value.int x t
  | [], _ => ⟨[], .nil, rfl, fun _ h => absurd h (by simp)⟩
  | v :: vs, hv => by
    obtain ⟨x, y, a, o, t, u, n, e, ho, hc, hd⟩ := hv v List.mem_cons_self
    obtain ⟨fs, h1, h2, h3⟩ := firstsS_of fun u hu => hv u (List.mem_cons_of_mem _ hu)
    subst e
    refine ⟨.int x t :: fs, .cons ho hc hd rfl h1, by rw [List.length_cons, List.length_cons, h2], fun f hf => ?_⟩
    rcases List.mem_cons.mp hf with rfl | hf
    · exact ⟨x, t, rfl⟩
    · exact h3 f hf
theorem pairsS_sortableO {a : Addr} {vs : List Value} {k : Value → Int × PySem.Str} (h0 : 0 < vs.length) (hp : ∀ v ∈ vs, IsPairS s.heap v (k v).1 (k v).2) (ha : ∀ o, s.heap.get? a = some o → o.cls ≠ .type "tuple") : SortableO prog w A s a vs fun v u => lexS (k v) (k u) := by
  intro h' keep
  have hp' : ∀ v ∈ vs, IsPairS h' v (k v).1 (k v).2 := fun v hm => (hp v hm).keeps fun b o e c => keep b o (fun z => by subst z; exact ha o e c) e
  obtain ⟨fs, h1, h2, h3⟩ := firstsS_of fun v hm => ⟨_, _, hp' v hm⟩
  refine ⟨tuples' true, fun Q E hq => ?_, pairS_cmp hp'⟩
  refine PySem.W.kat_kind (T := .type "int") h1 (by omega) (fun f hm => ?_) (by rfl) ?_
  · obtain ⟨x, t, rfl⟩ := h3 f hm
    exact PySem.W.Looks.now
  · have e : (Value.type "int" != Value.type "tuple") = true := by first | decide +kernel | rfl | decide
    rw [e]
    exact hq
theorem sorted_pairsS {l : Addr} {vs : List Value} {k : Value → Int × PySem.Str} {Q : Value → Shared → Prop} (hl : s.heap.IsList l vs.toArray) (hz : vs.length ≤ sizeLine) (hp : ∀ v ∈ vs, IsPairS s.heap v (k v).1 (k v).2)
    (h : ∀ (h' : Heap) (d : Addr) (out : List Value), Srtd (fun v u => lexS (k v) (k u)) out → Stb (fun v u => lexS (k v) (k u)) out vs → (∀ b o, s.heap.get? b = some o → h'.get? b = some o) → s.heap.objs.size ≤ d → (∃ n, h'.get? d = some (seqObj "list" out.toArray n)) → Q (.ref d) { s with heap := h' }) :
    wpAny (model prog w) A (call (.builtin "sorted") [.ref l]) Q E s := by
  refine sorted_ord (swo_lexS k) hl hz (fun h2 h₁ a ha kk => ?_) fun out hs hb => ?_
  · refine pairsS_sortableO (s := { s with heap := h₁ }) (by omega) (fun v hm => (hp v hm).keeps fun b o e _ => (kk b o e).2) fun o e => ?_
    have e' : some o = some (seqObj "list" vs.toArray 0) := e.symm.trans ha
    cases e'
    intro c
    exact absurd (Value.type.inj c) (by decide)
  · exact h _ _ out hs hb (fun b o e => sortedAll_old e) (Nat.le_succ _) (sortedAll_at s.heap vs out.toArray)
end
end SrtO
namespace RW
open PySem PySem.Spec PyProof.Rows L2
/-- sorted(xs), xs a list of pairs of an int and a text: by the ints -/
def rSortedPS (K : Frag) : List V → Hp → VK → Prop := fun vs H Q => ∃ (a : Addr) (xs : List V) (k : V → Int × Str), vs = [V.ref a] ∧ SqL K H a xs ∧ (∀ x ∈ xs, ∃ t, x = V.ref t ∧ H t = some (.tup [.int (k x).1, .str (k x).2])) ∧
  ∀ ys p, ys.Perm xs → ys.Pairwise (fun x y => (k x).1 ≤ (k y).1) → H p = none → Q (.ref p) (upd H p (.lst ys))
section
variable {X : Cx}
theorem cr_sortedPS : CallR X (.builtin "sorted") (rSortedPS X.K) := by
  intro pins s σ H vs us Q I r h
  obtain ⟨a, xs, k, rfl, hs, hx, q⟩ := h
  obtain ⟨its, rv, hl, hz⟩ := I.list hs
  obtain ⟨u, rfl, ru⟩ := vals1 r
  obtain rfl : u = Value.ref a := ru
  obtain ⟨e1, e2⟩ := refs_back rv fun x m => by
    obtain ⟨t, e, _⟩ := hx x m
    exact ⟨t, e⟩
  refine SrtO.sorted_pairsS (k := fun u => k (backV u)) hl.isList (by rw [← rv.length]; exact hz) (fun v hv => ?_) fun h' d out h1 h2 kp hd hn => ?_
  · obtain ⟨t, rfl⟩ := e2 v hv
    have hm : V.ref t ∈ xs := by rw [e1]; exact List.mem_map.mpr ⟨_, hv, rfl⟩
    obtain ⟨t', e, ht⟩ := hx _ hm
    cases e
    obtain ⟨_, its2, r2, o, ho, hc, n, hd⟩ := I.hok _ _ ht
    obtain ⟨u1, u2, rfl, ri, rj⟩ := vals2 r2
    obtain ⟨t1, rfl⟩ := ri
    obtain ⟨t2, rfl⟩ := rj
    exact ⟨t, o, t1, t2, n, rfl, ho, hc, hd⟩
  · have h3 : ∀ u ∈ out, ∃ a, u = Value.ref a := fun u hu => e2 u (h2.perm.mem_iff.mp hu)
    obtain ⟨n, hn⟩ := hn
    have hp : (out.map backV).Perm xs := by
      have := h2.perm.map backV
      rw [e1]
      exact this
    have hpw : (out.map backV).Pairwise (fun x y => (k x).1 ≤ (k y).1) := by
      rw [List.pairwise_map]
      refine h1.imp fun {x y} h => ?_
      have := SrtO.lexS_no.mp h
      have h4 : ¬ (k (backV y)).1 < (k (backV x)).1 := fun h => this (.inl h)
      omega
    refine ⟨.ref d, upd H d (.lst (out.map backV)), I.laid (t' := s.toks) kp hd ⟨?_, out, n, vals_back h3, hn⟩, rfl, q _ d hp hpw (I.hok.fresh hd)⟩
    rw [hp.length_eq]
    exact hz
end
end RW

/-! U10: classes and their methods, dicts in fields, comprehensions over any walk. -/
namespace RW
open PySem PySem.Spec PyProof.Rows L2
open Evl (Ex ex_l ex_t ex_rd fresh_back)
/-! ### methods -/
/-- the class at C has the method m, which keeps its promise -/
def HasM (P : Program) (w : World) (K : Frag) (mg : Str → Option Value) (base : Heap) (CX : CXT) (k : Nat) (C : Addr) (m : Str) (ps : List Str) (sp : Sp) : Prop :=
  ∃ (f : Addr) (fd : FuncData), FnOk P w K mg base CX k f fd ps sp ∧ Meth K C m f ∧ Binds K fd ps []
/-- the class at C has the method m -/
def AtM (K : Frag) (C : Addr) (m q : Str) (st : Stmt) : Prop := ∃ (f : Addr) (fd : FuncData), Fun K m q st f fd ∧ Meth K C m f
/-- C() makes an object by an __init__ that keeps its promise -/
def HasI (P : Program) (w : World) (K : Frag) (mg : Str → Option Value) (base : Heap) (k : Nat) (C : Addr) (sp : Sp) : Prop :=
  ∃ (f : Addr) (fd : FuncData), FnOk P w K mg base CX0 k f fd ["self"] sp ∧ Mk K C f ∧ Binds K fd ["self"] []
def AtI (K : Frag) (C : Addr) (q : Str) (st : Stmt) : Prop := ∃ (f : Addr) (fd : FuncData), Fun K "__init__" q st f fd ∧ Mk K C f
section
variable {X : Cx} {CX : CXT} {k : Nat} {C : Addr} {ps : List Str} {sp : Sp} {E : XK} {m x : Str} {p pos apos : Pos} {e o : Expr} {es : List Expr} {ta : TE} {t : TA}
theorem pe_callM {pl : Sem Bool} (c : Cls X.K C) (h : HasM X.prog X.w X.K X.mg X.base CX k C m ps sp) (hr : Room k X.A) (hx : Passes CX X E) (he : PE X o ta) (ha : PA X (e :: es) t)
    (hst : starEach (e :: es) X.env = (false, eval e X.env) :: starEach es X.env := by rfl) (hpl : (backTo pos (starEach es X.env)).any (·.1) = false := by rfl)
    (ht : eval (.Call (.Attribute o m apos) (e :: es) [] pos) X.env = (do
      let ov ← eval o X.env
      standAt apos.atName
      let (f, first) ← holding [ov] (getMethod ov m pl)
      callWith pos f first (backTo pos (starEach (e :: es) X.env)) (backToKw pos (keywordEach [] X.env))) := by rfl) :
    PE X (.Call (.Attribute o m apos) (e :: es) [] pos) (tMeth C m sp [] E ta t) := by
  obtain ⟨f, fd, F, hm, hb⟩ := h
  exact pe_meth he c hm F hr hb .nil hx ha hst hpl ht
theorem pe_callM0 {pl : Sem Bool} (c : Cls X.K C) (h : HasM X.prog X.w X.K X.mg X.base CX k C m ps sp) (hr : Room k X.A) (hx : Passes CX X E) (he : PE X o ta)
    (ht : eval (.Call (.Attribute o m apos) [] [] pos) X.env = (do
      let ov ← eval o X.env
      standAt apos.atName
      let (f, first) ← holding [ov] (getMethod ov m pl)
      callWith pos f first (backTo pos (starEach [] X.env)) (backToKw pos (keywordEach [] X.env))) := by rfl) :
    PE X (.Call (.Attribute o m apos) [] [] pos) (tMeth C m sp [] E ta tNil) := by
  obtain ⟨f, fd, F, hm, hb⟩ := h
  exact pe_meth0 he c hm F hr hb .nil hx ht
/-- o.m(e, ..), what it lets out told by the slots -/
def tMethV (C : Addr) (m : Str) (sp : Sp) (Es : L2.St → XK) (ta : TE) (t : TA) : TE := fun σ H Q => ta σ H fun x H1 => ∃ a dx fs, x = .ref a ∧ H1 a = some (.ins C dx fs) ∧ fs.lookup m = none ∧ t σ H1 fun vs H2 => sp (x :: vs) H2 Q (Es σ)
theorem pe_callMS {pl : Sem Bool} {Es : L2.St → XK} (c : Cls X.K C) (h : HasM X.prog X.w X.K X.mg X.base CX k C m ps sp) (hr : Room k X.A) (hx : ∀ σ, PassesAt CX X σ (Es σ)) (he : PE X o ta) (ha : PA X (e :: es) t)
    (hst : starEach (e :: es) X.env = (false, eval e X.env) :: starEach es X.env := by rfl) (hpl : (backTo pos (starEach es X.env)).any (·.1) = false := by rfl)
    (ht : eval (.Call (.Attribute o m apos) (e :: es) [] pos) X.env = (do
      let ov ← eval o X.env
      standAt apos.atName
      let (f, first) ← holding [ov] (getMethod ov m pl)
      callWith pos f first (backTo pos (starEach (e :: es) X.env)) (backToKw pos (keywordEach [] X.env))) := by rfl) :
    PE X (.Call (.Attribute o m apos) (e :: es) [] pos) (tMethV C m sp Es ta t) := by
  obtain ⟨f, fd, F, hm, hb⟩ := h
  refine ⟨fun pins s σ H Q I h => ?_⟩
  refine PySem.W.methodCall_KW (pl := pl) (thn (he.run pins s σ H _ I h) fun u s1 ⟨x, H1, I1, rx, a, dx, fs, ex, ea, l, q⟩ => ?_) ht
  subst ex
  obtain rfl : u = Value.ref a := rx
  refine getmeth_ok I1 ea c hm l ?_
  refine PySem.W.callWith_K (first := [.ref a]) (h₀ := X.base) I.ok.mod.kin hm.kp (thn (ha.run pos pins s1 σ H1 _ I1 q) fun us s2 ⟨vs, H2, I2, r, q2⟩ => ⟨I2.kIn, ?_⟩) hst hpl
  exact run_fnS (us := .ref a :: us) (vs := .ref a :: vs) F hr hb (hx σ) I2 (.cons rfl r) q2
theorem pe_makeI (h : HasI X.prog X.w X.K X.mg X.base k C sp) (hr : Room (k + 1) X.A) (hg : Gl X x) (hm : X.mg x = some (.ref C)) (hdb : (x == ("__debug__" : Str)) = false := by decide) : PE X (.Call (.Name x p) [] [] pos) (tMake C sp [] E0 tNil) := by
  obtain ⟨f, fd, F, M, hb⟩ := h
  exact pe_make0 M F hr hg hm hb .nil pass0 hdb
end
section
variable {P : Program} {w : World} {K : Frag} {mg : Str → Option Value} {base : Heap} {C : Addr}
theorem hasM_of {m q : Str} {st : Stmt} {ps N : List Str} {k : Nat} {sp : Sp} (h : AtM K C m q st) (S : FnScope N ps (defScope st)) (len : ∀ vs H Q E, sp vs H Q E → vs.length = ps.length)
    (hb : ∀ (kV doc pm : Value) (an : Option Addr) (cdv ct : Value) (us : List Value), us.length = ps.length → bindArgs (PySem.W.fnOf m q (defArgs st) (defBody st) (defScope st) .none kV doc pm an cdv ct) ⟨us, []⟩ = pure (ps.zip us))
    (hbody : ∀ (f : Addr) (cdv : Value) (A : Around) (outer : List Env) (s : Shared) (H : Hp) (vs : List V) (Q : VK) (E : XK), Room k (A.deeper (envOfC q (defScope st) s.heap.objs.size f cdv)) → sp vs H Q E →
      ∃ t, PSs (cxOf CX0 P w K mg base N q (defScope st) f cdv A outer s H E).nox (defBody st) t ∧ t { nx := fun _ H' => Q .non H', rt := Q } (start N vs) H) : HasM P w K mg base CX0 (k + 1) C m ps sp := by
  obtain ⟨f, fd, F, hm⟩ := h
  exact ⟨f, fd, F.ok S len fun cdv A outer s H vs Q E hr hs => hbody f cdv A outer s H vs Q E hr hs, hm, F.binds hb⟩
theorem hasMX_of {m q : Str} {st : Stmt} {ps N : List Str} {k : Nat} {sp : Sp} (h : AtM K C m q st) (S : FnScope N ps (defScope st)) (len : ∀ vs H Q E, sp vs H Q E → vs.length = ps.length)
    (hb : ∀ (kV doc pm : Value) (an : Option Addr) (cdv ct : Value) (us : List Value), us.length = ps.length → bindArgs (PySem.W.fnOf m q (defArgs st) (defBody st) (defScope st) .none kV doc pm an cdv ct) ⟨us, []⟩ = pure (ps.zip us))
    (hbody : ∀ (f : Addr) (cdv : Value) (A : Around) (outer : List Env) (s : Shared) (H : Hp) (vs : List V) (Q : VK) (E : XK), Room k (A.deeper (envOfC q (defScope st) s.heap.objs.size f cdv)) → sp vs H Q E →
      ∃ t, PSs (cxOf (L2.CX P w) P w K mg base N q (defScope st) f cdv A outer s H E) (defBody st) t ∧ t { nx := fun _ H' => Q .non H', rt := Q } (start N vs) H) : HasM P w K mg base (L2.CX P w) (k + 1) C m ps sp := by
  obtain ⟨f, fd, F, hm⟩ := h
  exact ⟨f, fd, F.okX S len fun cdv A outer s H vs Q E hr hs => hbody f cdv A outer s H vs Q E hr hs, hm, F.binds hb⟩
theorem hasI_of {q : Str} {st : Stmt} {N : List Str} {k : Nat} {sp : Sp} (h : AtI K C q st) (S : FnScope N ["self"] (defScope st)) (len : ∀ vs H Q E, sp vs H Q E → vs.length = 1)
    (hb : ∀ (kV doc pm : Value) (an : Option Addr) (cdv ct : Value) (us : List Value), us.length = 1 → bindArgs (PySem.W.fnOf "__init__" q (defArgs st) (defBody st) (defScope st) .none kV doc pm an cdv ct) ⟨us, []⟩ = pure ((["self"] : List Str).zip us))
    (hbody : ∀ (f : Addr) (cdv : Value) (A : Around) (outer : List Env) (s : Shared) (H : Hp) (vs : List V) (Q : VK) (E : XK), Room k (A.deeper (envOfC q (defScope st) s.heap.objs.size f cdv)) → sp vs H Q E →
      ∃ t, PSs (cxOf CX0 P w K mg base N q (defScope st) f cdv A outer s H E).nox (defBody st) t ∧ t { nx := fun _ H' => Q .non H', rt := Q } (start N vs) H) : HasI P w K mg base (k + 1) C sp := by
  obtain ⟨f, fd, F, hm⟩ := h
  exact ⟨f, fd, F.ok S len fun cdv A outer s H vs Q E hr hs => hbody f cdv A outer s H vs Q E hr hs, hm, F.binds hb⟩
end
/-! ### steps -/
section
variable {K : Frag} {σ : L2.St} {H H' H0 : Hp} {Q : VK} {ta tb tc td ty tv tx_ : TE} {x v : V} {nx bk ct : L2.St → Hp → Prop} {rt : VK} {E : XK}
theorem x_fld {f : Str} (q : ta σ H fun x H1 => ∃ a C dx fs v, x = .ref a ∧ H1 a = some (.ins C dx fs) ∧ Cls K C ∧ NoAttr K C f ∧ fs.lookup f = some v ∧ Q v H1) : tFld K ta f σ H Q := q
theorem x_sfld {f : Str} (q : tv σ H fun y H1 => ta σ H1 fun x H2 => ∃ a C dx fs, x = .ref a ∧ H2 a = some (.ins C dx fs) ∧ Cls K C ∧ NoAttr K C f ∧ fs.length < 1000 ∧ nx σ (upd H2 a (.ins C dx (putF f y fs)))) : sFld K ta tv f ⟨nx, rt, bk, ct⟩ σ H := q
theorem x_meth {C : Addr} {m : Str} {sp : Sp} {t : TA} (q : ta σ H fun x H1 => ∃ a dx fs, x = .ref a ∧ H1 a = some (.ins C dx fs) ∧ fs.lookup m = none ∧ t σ H1 fun vs H2 => sp (x :: vs) H2 Q E) : tMeth C m sp [] E ta t σ H Q := by
  show ta σ H fun x H1 => ∃ a dx fs, x = .ref a ∧ H1 a = some (.ins C dx fs) ∧ fs.lookup m = none ∧ t σ H1 fun vs H2 => sp (x :: (vs ++ [])) H2 Q E
  have e : (fun x H1 => ∃ a dx fs, x = V.ref a ∧ H1 a = some (.ins C dx fs) ∧ fs.lookup m = none ∧ t σ H1 fun vs H2 => sp (x :: (vs ++ [])) H2 Q E) = fun x H1 => ∃ a dx fs, x = V.ref a ∧ H1 a = some (.ins C dx fs) ∧ fs.lookup m = none ∧ t σ H1 fun vs H2 => sp (x :: vs) H2 Q E := by
    funext x H1
    have e2 : (fun vs H2 => sp (x :: (vs ++ [])) H2 Q E) = fun vs H2 => sp (x :: vs) H2 Q E := by
      funext vs H2
      rw [List.append_nil]
    rw [e2]
  rw [e]
  exact q
theorem x_methV {C : Addr} {m : Str} {sp : Sp} {Es : L2.St → XK} {t : TA} (q : ta σ H fun x H1 => ∃ a dx fs, x = .ref a ∧ H1 a = some (.ins C dx fs) ∧ fs.lookup m = none ∧ t σ H1 fun vs H2 => sp (x :: vs) H2 Q (Es σ)) : tMethV C m sp Es ta t σ H Q := q
theorem x_din (q : ty σ H fun y H1 => td σ H1 fun x H2 => ∃ a o, x = .ref a ∧ DGet H2 a y o ∧ Q (.bl o.isSome) H2) : tDIn ty td σ H Q := q
theorem x_dnotin (q : ty σ H fun y H1 => td σ H1 fun x H2 => ∃ a o, x = .ref a ∧ DGet H2 a y o ∧ Q (.bl (!o.isSome)) H2) : tDNotIn ty td σ H Q := q
theorem x_dget1 (q : td σ H fun x H1 => ∃ a, x = .ref a ∧ IsD H1 a ∧ ty σ H1 fun y H2 => ∃ o, DGet H2 a y o ∧ Q (o.getD .non) H2) : tDGet1 td ty σ H Q := q
theorem x_dpop1 (q : td σ H fun x H1 => ∃ a, x = .ref a ∧ IsD H1 a ∧ ty σ H1 fun y H2 => ∃ kvs k v, H2 a = some (.dK kvs) ∧ y = kV k ∧ valV kvs k = some v ∧ Q v (upd H2 a (.dK (dropK kvs k)))) : tDPop1 td ty σ H Q := q
theorem isD_of {a : Addr} {kvs : List (Key × V)} (h : H a = some (.dK kvs)) : IsD H a := .inl ⟨kvs, .inl h⟩
theorem x_lock {t : TE} {d : Addr} {u : HO} (hd : H d = some u) (mu : Mut (some u)) (q : ∀ od, t σ (upd H d (.frz od u)) fun v H' => H' d = some (.frz od u) ∧ Q v (upd H' d u)) : tLockE t σ H Q := ⟨d, u, hd, mu, q⟩
variable {g : TG} {tt : TT} {te : TE} {vs : List Nat}
theorem x_lcItems (q : td σ H fun x H1 => ∃ d o kvs, x = .ref d ∧ H1 d = some (.frz o (.dK kvs)) ∧ lcGo (Iti d o kvs) g tt te vs σ H1 Q) : tLc (iItems td) g tt te vs σ H Q := q
theorem x_lcVals (q : td σ H fun x H1 => ∃ d o kvs, x = .ref d ∧ H1 d = some (.frz o (.dK kvs)) ∧ lcGo (Itd d o kvs) g tt te vs σ H1 Q) : tLc (iVals td) g tt te vs σ H Q := q
/-! ### comprehensions over any walk -/
/-- each turn gives a value that needs no heap, or none -/
theorem lc_opt {J : It} {n : Nat} (F : Nat → Option V) (hn : n ≤ 16000000) (h1 : ∀ i H', Ex H H' → i < n → J.go i H') (h2 : ∀ H', Ex H H' → J.stop n H')
    (hb : ∀ i H', i < n → Ex H H' → ∀ x H'', J.yld i H' x H'' → ∀ (R : VK) (R0 : Hp → Prop), (∀ y H4, F i = some y → Ex H' H4 → R y H4) → (F i = none → ∀ H3, Ex H' H3 → R0 H3) →
      g x (wipe σ vs) H'' fun σ2 H2 => wipe σ2 vs = wipe σ vs ∧ tt σ2 H2 fun b H3 => if b = true then te σ2 H3 R else R0 H3)
    (q : ∀ p H', H p = none → Ex H H' → H' p = some (.lst ((List.range n).filterMap F)) → Q (.ref p) H') : lcGo J g tt te vs σ H Q := by
  intro Dl hD
  refine ⟨fun i m H' => m = n - i ∧ i ≤ n ∧ Cg H Dl ((List.range i).filterMap F) H', ⟨n, by omega, Nat.zero_le _, hD, Evl.Ex.new hD, upd_same⟩, ?_⟩
  rintro i m H' ⟨rfl, hi, c1, c2, c3⟩
  by_cases hlt : i < n
  · refine .inr ⟨h1 i H' c2 hlt, fun H'' => Cg H Dl ((List.range (i + 1)).filterMap F) H'', fun H'' c => ⟨n - (i + 1), by omega, rfl, hlt, c⟩, fun x H'' hy => ?_⟩
    refine hb i H' hlt c2 x H'' hy _ _ (fun y H4 hF e => ⟨_, e _ _ c3, ?_, c1, Evl.Ex.mut (Ex.trs c2 e) c1, ?_⟩) fun hF H3 e => ⟨c1, Ex.trs c2 e, ?_⟩
    · have h5 : ((List.range i).filterMap F).length ≤ i := by
        have := List.length_filterMap_le F (List.range i)
        rwa [List.length_range] at this
      rw [sizeLine_eq]
      omega
    · rw [List.range_succ, List.filterMap_append, List.filterMap_cons, hF]
      exact upd_same
    · rw [List.range_succ, List.filterMap_append, List.filterMap_cons, hF, List.filterMap_nil, List.append_nil]
      exact e _ _ c3
  · obtain rfl : i = n := by omega
    exact .inl ⟨h2 H' c2, q Dl H' c1 c2 c3⟩
/-- the same, no ifs -/
theorem lc_val {J : It} {n : Nat} (F : Nat → V) (hn : n ≤ 16000000) (h1 : ∀ i H', Ex H H' → i < n → J.go i H') (h2 : ∀ H', Ex H H' → J.stop n H')
    (hb : ∀ i H', i < n → Ex H H' → ∀ x H'', J.yld i H' x H'' → ∀ (R : VK), (∀ H4, Ex H' H4 → R (F i) H4) → g x (wipe σ vs) H'' fun σ2 H2 => wipe σ2 vs = wipe σ vs ∧ te σ2 H2 R)
    (q : ∀ p H', H p = none → Ex H H' → H' p = some (.lst ((List.range n).map F)) → Q (.ref p) H')
    (hg : ∀ x H'' (N N' : L2.St → Hp → Prop), (∀ σ2 H2, N σ2 H2 → N' σ2 H2) → g x (wipe σ vs) H'' N → g x (wipe σ vs) H'' N') : lcGo J g tYes te vs σ H Q :=
  lc_opt (fun i => some (F i)) hn h1 h2 (fun i H' hi e x H'' hy R R0 r1 r2 => hg _ _ _ _ (fun σ2 H2 ⟨w, q⟩ => ⟨w, x_yes (x_it rfl q)⟩) (hb i H' hi e x H'' hy R fun H4 e4 => r1 _ _ rfl e4)) fun p H' h1 h2 h3 => q p H' h1 h2 (by rw [filterMap_some] at h3; exact h3)
/-- each turn gives a new tuple -/
theorem lc_tup {J : It} {n : Nat} (F : Nat → List V) (hn : n ≤ 16000000) (h1 : ∀ i H', Ex H H' → i < n → J.go i H') (h2 : ∀ H', Ex H H' → J.stop n H')
    (hb : ∀ i H', i < n → Ex H H' → ∀ x H'', J.yld i H' x H'' → ∀ (R : VK), (∀ t H4, H4 t = some (.tup (F i)) → Ex H' H4 → R (.ref t) H4) → g x (wipe σ vs) H'' fun σ2 H2 => wipe σ2 vs = wipe σ vs ∧ te σ2 H2 R)
    (hg : ∀ x H'' (N N' : L2.St → Hp → Prop), (∀ σ2 H2, N σ2 H2 → N' σ2 H2) → g x (wipe σ vs) H'' N → g x (wipe σ vs) H'' N')
    (q : ∀ (ts : List Addr) p H', ts.length = n → (∀ i t, ts[i]? = some t → H' t = some (.tup (F i))) → H p = none → Ex H H' → H' p = some (.lst (ts.map V.ref)) → Q (.ref p) H') : lcGo J g tYes te vs σ H Q := by
  intro Dl hD
  refine ⟨fun i m H' => m = n - i ∧ i ≤ n ∧ ∃ ts : List Addr, ts.length = i ∧ (∀ k t, ts[k]? = some t → H' t = some (.tup (F k))) ∧ Cg H Dl (ts.map V.ref) H', ⟨n, by omega, Nat.zero_le _, [], rfl, fun k t h => by simp at h, hD, Evl.Ex.new hD, upd_same⟩, ?_⟩
  rintro i m H' ⟨rfl, hi, ts, hl, ht, c1, c2, c3⟩
  by_cases hlt : i < n
  · refine .inr ⟨h1 i H' c2 hlt, fun H'' => ∃ ts : List Addr, ts.length = i + 1 ∧ (∀ k t, ts[k]? = some t → H'' t = some (.tup (F k))) ∧ Cg H Dl (ts.map V.ref) H'', fun H'' c => ⟨n - (i + 1), by omega, rfl, hlt, c⟩, fun x H'' hy => ?_⟩
    refine hg _ _ _ _ ?_ (hb i H' hlt c2 x H'' hy (fun y H4 => ∃ acc, H4 Dl = some (.lst acc) ∧ acc.length < sizeLine ∧ ∃ ts : List Addr, ts.length = i + 1 ∧ (∀ k t, ts[k]? = some t → upd H4 Dl (.lst (acc ++ [y])) t = some (.tup (F k))) ∧ Cg H Dl (ts.map V.ref) (upd H4 Dl (.lst (acc ++ [y])))) fun t H4 h4 e4 => ?_)
    · rintro σ2 H2 ⟨w, r⟩
      exact ⟨w, x_yes (x_it rfl r)⟩
    · have hDl := e4 _ _ c3
      have nt : ∀ {b : Addr} {xs : List V}, H4 b = some (.tup xs) → b ≠ Dl := fun hb z => by
        rw [z, hDl] at hb
        cases hb
      refine ⟨_, hDl, by rw [List.length_map, sizeLine_eq]; omega, ts ++ [t], by simp [hl], fun k t' hk => ?_, c1, Evl.Ex.mut (Ex.trs c2 e4) c1, ?_⟩
      · by_cases hki : k < ts.length
        · rw [List.getElem?_append_left hki] at hk
          have h5 := e4 _ _ (ht k t' hk)
          rw [upd_ne (nt h5)]
          exact h5
        · have hlen := (List.getElem?_eq_some_iff.mp hk).1
          rw [List.length_append, List.length_singleton] at hlen
          have ek : k = ts.length := by omega
          subst ek
          have : t = t' := by simpa using hk
          subst this
          rw [upd_ne (nt h4), h4, hl]
      · rw [upd_same, List.map_append]
        rfl
  · obtain rfl : i = n := by omega
    exact .inl ⟨h2 H' c2, q ts Dl H' hl ht c1 c2 c3⟩
end
end RW

/-! V2: len(set(texts)). -/
namespace RW
open PySem PySem.Spec PyProof.Rows L2
/-- the unlike ones of a list, in the order in which they are met -/
def met (acc : List Str) (x : Str) : List Str := if acc.any (· == x) = true then acc else acc ++ [x]
def mets (xs : List Str) : List Str := xs.foldl met []
theorem mets_succ {xs : List Str} {k : Nat} (h : k < xs.length) : mets (xs.take (k + 1)) = met (mets (xs.take k)) (xs.getD k Str.empty) := by
  unfold mets
  have e : xs.take (k + 1) = xs.take k ++ [xs.getD k Str.empty] := by
    rw [List.take_succ, List.getD_eq_getElem?_getD, List.getElem?_eq_getElem h]
    rfl
  rw [e, List.foldl_append]
  rfl
theorem foldl_met_len : ∀ (xs acc : List Str), (xs.foldl met acc).length ≤ acc.length + xs.length
  | [], acc => Nat.le_refl _
  | x :: xs, acc => by
    have h1 := foldl_met_len xs (met acc x)
    have h2 : (met acc x).length ≤ acc.length + 1 := by
      unfold met
      split
      · omega
      · rw [List.length_append, List.length_singleton]
        omega
    rw [List.foldl_cons, List.length_cons]
    omega
theorem mets_len (xs : List Str) : (mets xs).length ≤ xs.length := by
  have := foldl_met_len xs []
  unfold mets
  simpa using this
theorem met_any (acc : List Str) (x k : Str) : (met acc x).any (· == k) = (acc.any (· == k) || decide (k = x)) := by
  unfold met
  by_cases h : acc.any (· == x) = true
  · rw [if_pos h]
    by_cases e : k = x
    · subst e
      rw [h]
      simp
    · simp [e]
  · rw [if_neg h, List.any_append]
    by_cases e : k = x
    · subst e
      simp
    · have hb : (x == k) = false := by simpa [beq_iff_eq] using (fun r : x = k => e r.symm)
      simp [hb, e]
theorem met_len (acc : List Str) (x : Str) : (met acc x).length = if acc.any (· == x) then acc.length else acc.length + 1 := by
  unfold met
  split <;> simp
section
variable {prog : Program} {w : World} {A : Around} {R : Result → Shared → Prop} {I : Addr} {fp wr : List Addr} {G : Array GenState → Array GenState → Prop} {n : Nat} {P : Nat → Value → Prop} {St : Nat → Shared → Prop}
/-- the texts that a walk gives, put into the set at S -/
theorem setFill (W : WalksS prog w A.in1 I fp wr G n P St) (S : Addr) (hSf : S ∉ fp) (xs : List Str) (hl : xs.length = n) (hv : ∀ i v, P i v → ∃ t, v = .str (xs.getD i Str.empty) t) (hb : n + 1 < scanBound) :
    ∀ (k i : Nat) (s : Shared), n - i = k → i ≤ n → St i s → s.heap.SetOf (PySem.strKind prog w) S (fun z => (mets (xs.take i)).any (· == z)) (mets (xs.take i)).length →
      (∀ s', Moved (S :: wr) G s s' → s'.heap.SetOf (PySem.strKind prog w) S (fun z => (mets xs).any (· == z)) (mets xs).length → R (.ok (.ret .none)) s') →
      codeAny (model prog w) A (.builtin "set.update.loop" ⟨[.ref S, .ref I], []⟩) R s := by
  have nw : S ∉ wr := fun h => hSf (W.sub _ h)
  have sb : ∀ b ∈ wr, b ∈ S :: wr := fun b hb => List.mem_cons_of_mem _ hb
  intro k
  induction k with
  | zero =>
    intro i s hk hi st hS hR
    obtain rfl : i = n := by omega
    (refine codeAny_builtin PyProof.Rows.F.entry_set_update_loop ?_; rw [Around.under_plainId PyProof.Rows.F.plain_set_update_loop _])
    (show wpAny _ A.in1 (pyNext (.ref I) >>= _) _ _ s; refine wpAny_bind (W.done s _ _ st fun s' hm => ?_))
    (show wpAny _ A.in1 (ret Value.none) _ _ s'; refine wpAny_pure (hR s' (hm.mono sb) ?_))
    obtain ⟨o, es, ep, t, ho, rest⟩ := hS
    rw [← hl, List.take_length] at rest
    exact ⟨o, es, ep, t, hm.heap S _ nw ho, rest⟩
  | succ k ih =>
    intro i s hk hi st hS hR
    have lt : i < n := by omega
    (refine codeAny_builtin PyProof.Rows.F.entry_set_update_loop ?_; rw [Around.under_plainId PyProof.Rows.F.plain_set_update_loop _])
    (show wpAny _ A.in1 (pyNext (.ref I) >>= _) _ _ s; refine wpAny_bind (W.item i s _ _ lt st fun v s' hP st' hm => ?_))
    obtain ⟨t, rfl⟩ := hv i v hP
    have hS1 : s'.heap.SetOf (PySem.strKind prog w) S (fun z => (mets (xs.take i)).any (· == z)) (mets (xs.take i)).length := by
      obtain ⟨o, es, ep, tb, ho, rest⟩ := hS
      exact ⟨o, es, ep, tb, hm.heap S _ nw ho, rest⟩
    (show wpAny _ A.in1 (holding [Value.str (xs.getD i Str.empty) t] (setAdd S (.str (xs.getD i Str.empty) t)) >>= _) _ _ s'; refine wpAny_bind (wpAny_holding ?_); unfold setAdd)
    refine wpAny_holding (wpAny_bind ((PySem.strKind prog w).pyHash (k := xs.getD i Str.empty) (strKind_is _ _ _ _) ?_))
    have room : (mets (xs.take i)).length + 1 < scanBound := by
      have := mets_len (xs.take i)
      rw [List.length_take] at this
      omega
    refine wpAny_setAddHashed_of (knd := PySem.strKind prog w) (s := { s' with toks := s'.toks + 1 }) (strKind_is _ _ _ _) rfl hS1 room fun h' hsb hS2 => ?_
    have hS3 : h'.SetOf (PySem.strKind prog w) S (fun z => (mets (xs.take (i + 1))).any (· == z)) (mets (xs.take (i + 1))).length :=
      SetOf_congr hS2 (fun z => by rw [mets_succ (by omega), met_any]) (by rw [mets_succ (by omega), met_len])
    refine wpAny_pure ⟨plainId_quiet PyProof.Rows.F.plain_set_update_loop _, ih (i + 1) _ (by omega) lt (W.frame _ s' _ _ st' (Nat.le_succ _) fun b hb o e => ?_) hS3 fun s2 hm2 hS4 => hR s2 (Moved.trans W.gtrans ((hm.mono sb).then_heap (Nat.le_succ _) fun b o hb e => ?_) hm2) hS4⟩
    · rw [hsb.2 b fun r => hSf (r ▸ hb)]
      exact e
    · rw [hsb.2 b fun r => hb (r ▸ List.mem_cons_self)]
      exact e
end
section
variable {prog : Program} {w : World} {A : Around} {E : Value → Shared → Prop} {s : Shared}
theorem call_setTx {l : Addr} {items : Array Value} {xs : List Str} {Q : Value → Shared → Prop} (hh : A.handled = none) (hl : s.heap.IsList l items) (hi : PyProof.Rows.StrsAre items.toList xs) (hb : items.size + 1 < scanBound)
    (h : ∀ (h' : Heap) (tk : Nat), h'.SetOf (PySem.strKind prog w) s.heap.objs.size (fun z => (mets xs).any (· == z)) (mets xs).length → (∀ b o, b < s.heap.objs.size → s.heap.get? b = some o → h'.get? b = some o) → Q (.ref s.heap.objs.size) { s with heap := h', toks := tk }) :
    wpAny (model prog w) A (call (.type "set") [.ref l]) Q E s := by
  obtain ⟨c0, tl0, mro0⟩ := PySem.F.called_set.mro
  have made0 := PySem.F.called_set.made
  have sub0 := PySem.F.called_set.sub
  (refine wpAny_call (codeAny_of_tree ?_); show wpAny _ _ (callAny (.type "set") _) _ _ _; refine wpAny_pure ⟨Code.quiet_builtin _ (by decide +kernel), codeAny_builtin PySem.F.entry_type_call ?_⟩)
  rw [Around.under_plain (weight_type_call_type "set" [.ref l] []) rfl]
  have not0 := PySem.F.called_set.notType
  have can0 := PySem.F.called_set.canCreate
  have tc0 := PySem.F.typeCall_set_1 (.ref l)
  (repeat (any_goals (first | assumption | wp_step)))
  have mk : ∀ led : Bool, (∃ led' : Bool, Value.ref s.heap.objs.size = .ref s.heap.objs.size ∧ ({ s with heap := s.heap.push { cls := .type "set", dict := none, data := .set #[] 0 (.fresh 0 0 led) } } : Shared) = { s with heap := s.heap.push { cls := .type "set", dict := none, data := .set #[] 0 (.fresh 0 0 led') } }) := fun led => ⟨led, rfl, rfl⟩
  refine codeAny_mono (code_set_new_1 (.ref l) (E := E) (Q₁ := fun ob s1 => ∃ led : Bool, ob = .ref s.heap.objs.size ∧ s1 = { s with heap := s.heap.push { cls := .type "set", dict := none, data := .set #[] 0 (.fresh 0 0 led) } }) mk) fun r s1 hr => ?_
  cases r with
  | error e => exact hr
  | ok fl =>
    cases fl with
    | ret ob =>
      obtain ⟨led, rfl, rfl⟩ := hr
      have gS : (s.heap.push { cls := .type "set", dict := none, data := .set #[] 0 (.fresh 0 0 led) }).get? s.heap.objs.size = some { cls := .type "set", dict := none, data := .set #[] 0 (.fresh 0 0 led) } := Heap.get?_push_size _ rfl
      have tS : Shared.TypeIs { s with heap := s.heap.push { cls := .type "set", dict := none, data := .set #[] 0 (.fresh 0 0 led) } } (.ref s.heap.objs.size) "set" := ⟨_, gS, rfl⟩
      have li0 := PySem.F.called_set.init.lookup
      have bi0 := PySem.F.called_set.init.bind (.ref s.heap.objs.size)
      (repeat (any_goals (first | assumption | wp_step)))
      refine codeAny_mono (codeAny_call_builtin (R := wants (fun r s2 => r = .none ∧ ∃ h' tk, s2 = { s with heap := h', toks := tk } ∧ h'.SetOf (PySem.strKind prog w) s.heap.objs.size (fun z => (mets xs).any (· == z)) (mets xs).length ∧
          (∀ b o, b < s.heap.objs.size → s.heap.get? b = some o → h'.get? b = some o)) E) PySem.F.called_set.init.plain PySem.F.entry_set_init (check_set_init_1 tS ?_)) fun r2 s2 hr2 => ?_
      · obtain ⟨⟨oc, od, dt, sl⟩, hol, hcl, nl, hdl⟩ := hl
        simp only at hcl hdl
        subst hcl; subst hdl
        have gl : (s.heap.push { cls := .type "set", dict := none, data := .set #[] 0 (.fresh 0 0 led) }).get? l = some { cls := .type "list", dict := od, data := .seq items nl, slots := sl } := Heap.get?_push_of_some _ hol
        have s1 := PySem.F.sub_list_set
        have s2 := PySem.F.sub_list_frozenset
        have s3 : (Value.type "list" == Value.type "dict") = false := by decide
        have gl1 : (s.heap.push { cls := .type "set", dict := none, data := .set #[] 0 (.fresh 0 0 led) }).IsList l items := ⟨_, gl, rfl, nl, rfl⟩
        (unfold Builtin.«set.__init__» noKeywords Builtin.Frozenset.updateFrom; generalize hPI : pyIter = PI; wp_walk; subst hPI)
        refine wpAny_pyIter_list gl1 (wpAny_bind (wpAny_runValue ?_))
        have lS : l < s.heap.objs.size := Heap.lt_size hol
        have h3 : A.in1.in1.in1.handled = none := by simp [hh]
        have n1 : l ≠ (s.heap.push { cls := .type "set", dict := none, data := .set #[] 0 (.fresh 0 0 led) }).objs.size := by rw [Heap.size_push]; exact Nat.ne_of_lt (Nat.lt_succ_of_lt lS)
        have nS : s.heap.objs.size ∉ [(s.heap.push { cls := .type "set", dict := none, data := .set #[] 0 (.fresh 0 0 led) }).objs.size, l] := by
          (rw [Heap.size_push]; simp only [List.mem_cons, List.not_mem_nil, or_false, not_or]; exact ⟨Nat.ne_of_lt (Nat.lt_succ_self _), Nat.ne_of_gt lS⟩)
        have sz : xs.length = items.size := by rw [← StrsAre.len_eq hi, Array.length_toList]
        refine setFill ((Walks.list h3 _ l n1 items).toS) s.heap.objs.size nS xs sz (fun i v hv => SS.strs_at hi i v (by rw [Array.getElem?_toList]; exact hv)) hb (items.size - 0) 0 _ (by omega) (Nat.zero_le _) ⟨⟨_, Heap.get?_push_size _ rfl, rfl, rfl⟩, (gl1.push _)⟩ ?hA ?hB
        case hA =>
          have g0 : ((s.heap.push { cls := .type "set", dict := none, data := .set #[] 0 (.fresh 0 0 led) }).push { cls := .type "list_iterator", data := .fields #[.ref l, .int 0 0] }).get? s.heap.objs.size = some { cls := .type "set", dict := none, data := .set #[] 0 (.fresh 0 0 led) } := Heap.get?_push_of_some _ gS
          exact SetOf_congr ((setObjOf_fresh (knd := PySem.strKind prog w) led).setOf g0 (by unfold scanBound; omega)) (fun _ => rfl) rfl
        case hB =>
          intro s' hm hS'
          obtain ⟨h', g', d', tk', os'⟩ := s'
          obtain rfl : g' = s.gens := hm.gens
          obtain rfl : d' = s.drawn := hm.drawn
          obtain rfl : os' = s.os := hm.os
          (show wpAny _ _ _ _ _ _; refine wpAny_pure ?_; show wpAny _ _ (ret Value.none) _ _ _; refine wpAny_pure ⟨rfl, h', tk', rfl, hS', fun b o hb e => ?_⟩)
          have b1 : b ≠ s.heap.objs.size := Nat.ne_of_lt hb
          have b2 : b ≠ (s.heap.push { cls := .type "set", dict := none, data := .set #[] 0 (.fresh 0 0 led) }).objs.size := by rw [Heap.size_push]; exact Nat.ne_of_lt (Nat.lt_succ_of_lt hb)
          exact hm.heap b o (by simp only [List.mem_cons, List.not_mem_nil, or_false, not_or]; exact ⟨b1, b2⟩) (Heap.get?_push_of_some _ (Heap.get?_push_of_some _ e))
      · cases r2 with
        | error e => exact hr2
        | ok f2 =>
          cases f2 with
          | ret rr =>
            obtain ⟨rfl, h', tk, rfl, hS', kp⟩ := hr2
            (repeat (any_goals (first | assumption | wp_step)))
            exact h _ _ hS' kp
          | _ => exact hr2.elim
    | _ => exact hr.elim
end
/-- how many unlike ones -/
def dmet (acc : List (List Nat)) (x : List Nat) : List (List Nat) := if x ∈ acc then acc else acc ++ [x]
def dcount (ls : List (List Nat)) : Nat := (ls.foldl dmet []).length
theorem any_ST (acc : List (List Nat)) (x : List Nat) : (acc.map ST).any (· == ST x) = decide (x ∈ acc) := by
  induction acc with
  | nil => rfl
  | cons y r ih =>
    have e : (ST y == ST x) = decide (x = y) := by
      rw [Bool.beq_eq_decide_eq]
      by_cases h : x = y
      · subst h
        rw [decide_eq_true rfl, decide_eq_true rfl]
      · rw [decide_eq_false h, decide_eq_false fun q => h (ST_inj.mp q).symm]
    rw [List.map_cons, List.any_cons, ih, e]
    simp
theorem foldl_ST : ∀ (ls acc : List (List Nat)), (ls.map ST).foldl met (acc.map ST) = (ls.foldl dmet acc).map ST
  | [], acc => rfl
  | x :: ls, acc => by
    rw [List.map_cons, List.foldl_cons, List.foldl_cons, ← foldl_ST ls]
    congr 1
    unfold met dmet
    rw [any_ST]
    by_cases h : x ∈ acc
    · rw [if_pos (decide_eq_true h), if_pos h]
    · rw [if_neg (by simpa using h), if_neg h, List.map_append]
      rfl
theorem mets_ST (ls : List (List Nat)) : (mets (ls.map ST)).length = dcount ls := by
  have := congrArg List.length (foldl_ST ls [])
  rw [List.length_map] at this
  exact this
theorem dcount_nodup {ls : List (List Nat)} (h : ls.Pairwise fun a b => a ≠ b) : dcount ls = ls.length := by
  have go : ∀ (ls acc : List (List Nat)), (acc ++ ls).Pairwise (fun a b => a ≠ b) → ls.foldl dmet acc = acc ++ ls := by
    intro ls
    induction ls with
    | nil => intro acc _; simp
    | cons x r ih =>
      intro acc hp
      have hx : x ∉ acc := fun hm => by
        rw [List.pairwise_append] at hp
        exact hp.2.2 x hm x List.mem_cons_self rfl
      rw [List.foldl_cons]
      unfold dmet
      rw [if_neg hx]
      have := ih (acc ++ [x]) (by simpa using hp)
      unfold dmet at this
      rw [this]
      simp
  unfold dcount
  rw [go ls [] (by simpa using h)]
  rfl
/-- len(set(texts)) -/
def tLenSetU (K : Frag) (ta : TE) : TE := fun σ H Q => ta σ H fun x H1 => ∃ (l : Addr) (ls : List (List Nat)), x = .ref l ∧ SqL K H1 l (tx ls) ∧ ls.length ≤ 4000 ∧ Q (.int (dcount ls : Nat)) H1
theorem strs_vals : ∀ {ss : List Str} {us : List Value}, Vals (ss.map V.str) us → PyProof.Rows.StrsAre us ss
  | [], _, .nil => .nil
  | s :: ss, _, .cons ⟨t, e⟩ r => by
    subst e
    exact .cons s t (strs_vals r)
theorem pe_lenSetU {X : Cx} {a : Expr} {ta : TE} {p p2 q pos : Pos} (hg : Gl X "len") (hm : X.mg "len" = none) (hg2 : Gl X "set") (hm2 : X.mg "set" = none) (ha : PE X a ta) (hc : X.calm = true := by rfl)
    (na : starEach [a] X.env = (false, eval a X.env) :: starEach [] X.env := by rfl) : PE X (.Call (.Name "len" p) [.Call (.Name "set" p2) [a] [] q] [] pos) (tLenSetU X.K ta) := by
  refine ⟨fun pins s σ H Q I h => Call_ (ld_blt I hg hm boot_len (PyProof.Rows.callWith_builtin1 (PyProof.Rows.args_cons (Call_ (ld_blt I hg2 hm2 boot_set ?_)) rfl) rfl rfl))⟩
  refine PyProof.Rows.callWith_type1 (PyProof.Rows.args_cons (thn (ha.run pins s σ H _ I h) fun v s1 ⟨x, H1, I1, r1, q1⟩ => PyProof.Rows.args_nil ?_) na) na rfl
  obtain ⟨l, ls, rfl, hq, hl, q1⟩ := q1
  cases r1
  obtain ⟨its, r, pl, hz⟩ := I1.list hq
  have hlen : its.toArray.size = ls.length := by rw [List.size_toArray, ← r.length, tx_len]
  rw [tx_str] at r
  refine call_setTx (I1.ok.hd hc) pl.isList (by simpa using strs_vals r) (by rw [hlen]; unfold scanBound; omega) fun h' tk hS kp => PyProof.Rows.args_nil ?_
  obtain ⟨o, es, ep, t, ho, hex, hd, _, _, _, hf, hn⟩ := hS
  rw [mets_ST] at hn
  have hdl : dcount ls ≤ ls.length := by
    rw [← mets_ST]
    have := mets_len (ls.map ST)
    rwa [List.length_map] at this
  have I2 : Inv X pins σ H1 { s1 with heap := h', toks := tk } := I1.kept fun b o e => kp b o (Heap.lt_size e) e
  exact call_len_set ho hex hd hf (by rw [hn] <;> omega) ⟨.int (dcount ls), H1, I2.tok _, ⟨_, by rw [hn]⟩, q1⟩
end RW

/-! V5: list.remove of data, d.get(None, x), sorted(set(ints)). -/
namespace RW
open PySem PySem.Spec PyProof.Rows L2
open Evl (Ex ex_l ex_t ex_rd fresh_back)
section
variable {X : Cx}
/-- l.remove(x), data: the first equal one is gone -/
def rRemD (K : Frag) : V → List V → Hp → VK → Prop := fun x xs H Q => ∃ (l : Addr) (zs : List V) (y : V) (d : PyData) (ds : List PyData) (j : Nat) (z : PyData), x = V.ref l ∧ xs = [y] ∧ H l = some (.lst zs) ∧ DpAll K H zs ds ∧ Dp K H y d ∧
  SeqAt.shaped (.list ds) = true ∧ SeqAt.shaped d = true ∧ ds[j]? = some z ∧ PyData.eqv z d = true ∧ (∀ (m : Nat) (z' : PyData), m < j → ds[m]? = some z' → PyData.eqv z' d = false) ∧ Q .non (upd H l (.lst (zs.eraseIdx j)))
theorem mt_removeD (hu : X.A.units + 65 < cLine) : MtM X "list.remove" (rRemD X.K) := by
  intro pins s σ H x xs v us Q I rx rxs h
  obtain ⟨a, zs, y, d, ds, j, z, rfl, rfl, hH, ha, hy, sl, sd, hz, hzj, hno, q⟩ := h
  cases rx
  obtain ⟨uy, rfl, ry⟩ := rxs.one
  obtain ⟨bs, r1⟩ := Dp.reads I d y uy hy ry
  have hxs : PyData.canLayAll0 ds = true := SeqAt.canLay_of_shaped sl
  have hroom : X.A.units + 1 + min (PyData.depthAll ds) d.depth < cLine := room_in_shaped sd hu
  obtain ⟨hzl, its, n, r, hl, e⟩ := I.lstM hH
  obtain ⟨as, h4⟩ := Dp.readsAll I ds _ its ha r
  have hn : its.length = ds.length := SeqAt.ReadsAll.length ds its as h4
  have hmap : its.map (SeqAt.readOf s.heap) = ds := SeqAt.readsAll_map ds its as hxs h4
  have hsl := sizeLine_eq
  obtain ⟨hjd, _⟩ := List.getElem?_eq_some_iff.mp hz
  have hjl : j < its.length := by omega
  have hj : j < its.toArray.size := by simpa using hjl
  have at_ : ∀ (m : Nat) (hm : m < its.toArray.size) (z' : PyData), ds[m]? = some z' → SeqAt.readOf s.heap its.toArray[m] = z' := by
    intro m hm z' hz'
    have hml : m < its.length := by simpa using hm
    rw [← hmap, List.getElem?_map, List.getElem?_eq_getElem hml] at hz'
    have e1 : SeqAt.readOf s.heap its[m] = z' := Option.some.inj (show some (SeqAt.readOf s.heap its[m]) = some z' from hz')
    simpa using e1
  refine call_meets PySem.F.slot_list_remove ⟨_, e, rfl⟩ PySem.F.entry_list_remove (PySem.F.args_list_remove_2 _ _)
    (SeqAt.list_removeAt a its.toArray n none #[] uy (fun u => PyData.eqv (SeqAt.readOf s.heap u) d) j hj ?_ ?_ (by rw [List.size_toArray]; omega)) ⟨e, SeqAt.items_eqAt (vs := its.toArray) (show ReadsAll s.heap its.toArray.toList ds as from h4) r1 hxs (SeqAt.canLay_of_shaped sd) hroom, ?_⟩
  · show PyData.eqv (SeqAt.readOf s.heap its.toArray[j]) d = true
    rw [at_ j hj z hz]
    exact hzj
  · intro m hm hmj
    have hmd : m < ds.length := by omega
    have hz' : ds[m]? = some ds[m] := List.getElem?_eq_getElem hmd
    show PyData.eqv (SeqAt.readOf s.heap its.toArray[m]) d = false
    rw [at_ m hm _ hz']
    exact hno m _ hmj hz'
  · have rr := r.eraseIdx j
    refine ⟨.non, _, I.lset (its' := its.eraseIdx j) (t' := s.toks) hH e ?_ rr ?_, rfl, q⟩
    · show its.toArray.eraseIdxIfInBounds j = (its.eraseIdx j).toArray
      rw [List.eraseIdxIfInBounds_toArray]
    · have z2 := List.length_eraseIdx_le zs j
      omega
theorem hu65 {k : Nat} {A : Around} (hr : Room k A) : A.units + 65 < cLine := by
  have := hr.un
  omega
/-! ### d.get(x, y), x may be None -/
def tDGet2N (td ty tx : TE) : TE := fun σ H Q => td σ H fun x H1 => ∃ a, x = .ref a ∧ IsD H1 a ∧ ty σ H1 fun y H2 => tx σ H2 fun z H3 => (∃ o, DGet H3 a y o ∧ Q (o.getD z) H3) ∨ (∃ kvs, y = .non ∧ Rd H3 a (.dK kvs) ∧ Q z H3)
theorem pe_dget2N {o e f : Expr} {apos cpos : Pos} {td ty tx : TE} (hu : X.A.units + 1 < cLine) (ho : PE X o td) (he : PE X e ty) (hf : PE X f tx) (m : M2 X o "get" apos e f cpos) : PE X (.Call (.Attribute o "get" apos) [e, f] [] cpos) (tDGet2N td ty tx) := by
  refine ⟨fun pins s σ H Q I h => ?_⟩
  refine wpAny_Call_method m.base m.few m.line PySem.F.plainAttrs_dict PySem.F.slot_dict_get PySem.F.type_dict_get (thn (ho.run pins s σ H _ I h) fun u s1 ⟨x, H1, I1, rx, a, ex, d, q1⟩ => ?_)
  subst ex
  obtain rfl : u = Value.ref a := rx
  obtain ⟨t1, t2, _⟩ := isD_at I1 d
  refine ⟨t1, t2, ?_⟩
  rw [m.trees]
  refine Calls.callWith_builtin rfl (Calls.evalArgs_plain (Calls.spliced_cons (thn (he.run pins s1 σ H1 _ I1 q1) fun iv s2 ⟨y, H2, I2, ry, q2⟩ =>
    Calls.spliced_cons (thn (hf.run pins s2 σ H2 _ I2 q2) fun fv s3 ⟨z, H3, I3, rz, q3⟩ => Calls.spliced_nil ?_))))
  rcases q3 with ⟨ov, g, q3⟩ | ⟨kvs, ey, g, q3⟩
  · exact d_get2 hu I3 g ry rz fun w' s4 I4 rw' => ⟨_, H3, I4, rw', q3⟩
  · subst ey
    obtain rfl : iv = Value.none := ry
    obtain ⟨_, hd, vs, _, dd⟩ := dk_rd I3.hok g
    obtain ⟨fm, hm, hf0⟩ := none_map dd
    refine call_meetsIn PySem.F.slot_dict_get dd.typeIs PySem.F.entry_dict_get (PySem.F.args_dict_get_3 _ _ _) (meets_dict_get_default (noneKind X.prog X.w) a (show (noneKind X.prog X.w).is none .none = true from rfl) hd fv) ⟨fm, hm, ?_⟩
    rw [hf0]
    exact ⟨z, H3, I3.tok _, rz, q3⟩
end
/-! ### set(list of ints), sorted of it -/
section
variable {P : Program} {w : World} {A : Around} {E : Value → Shared → Prop} {s : Shared}
theorem call_setI {l : Addr} {items : Array Value} (ns : List Int) {Q : Value → Shared → Prop} (hh : A.handled = none) (hl : s.heap.IsList l items) (hi : IntsAre items.toList ns) (hb : ns.length + 1 < scanBound)
    (h : ∀ (h' : Heap) (tk c : Nat), SetR w h' s.heap.objs.size (fun j => decide (j ∈ ns)) c → c ≤ ns.length → (∀ b o, s.heap.get? b = some o → h'.get? b = some o) → Q (.ref s.heap.objs.size) { s with heap := h', toks := tk }) :
    wpAny (model P w) A (call (.type "set") [.ref l]) Q E s := by
  obtain ⟨c0, tl0, mro0⟩ := PySem.F.called_set.mro
  have made0 := PySem.F.called_set.made
  have sub0 := PySem.F.called_set.sub
  have sz : items.size = ns.length := by rw [← IntsAre.length hi, Array.length_toList]
  (refine wpAny_call (codeAny_of_tree ?_); show wpAny _ _ (callAny (.type "set") _) _ _ _; refine wpAny_pure ⟨Code.quiet_builtin _ (by decide +kernel), codeAny_builtin PySem.F.entry_type_call ?_⟩)
  rw [Around.under_plain (weight_type_call_type "set" [.ref l] []) rfl]
  have not0 := PySem.F.called_set.notType
  have can0 := PySem.F.called_set.canCreate
  have tc0 := PySem.F.typeCall_set_1 (.ref l)
  (repeat (any_goals (first | assumption | wp_step)))
  refine codeAny_mono (code_set_led1 (P := P) (w := w) (.ref l) (E := E) (Q₁ := fun ob s1 => ob = .ref s.heap.objs.size ∧ s1 = { s with heap := s.heap.push { cls := .type "set", dict := none, data := .set #[] 0 (.fresh 0 0 (!w.params.followText "set-order")) } }) ⟨rfl, rfl⟩) fun r s1 hr => ?_
  cases r with
  | error e => exact hr
  | ok fl =>
    cases fl with
    | ret ob =>
      obtain ⟨rfl, rfl⟩ := hr
      have gS : (s.heap.push { cls := .type "set", dict := none, data := .set #[] 0 (.fresh 0 0 (!w.params.followText "set-order")) }).get? s.heap.objs.size = some { cls := .type "set", dict := none, data := .set #[] 0 (.fresh 0 0 (!w.params.followText "set-order")) } := Heap.get?_push_size _ rfl
      have tS : Shared.TypeIs { s with heap := s.heap.push { cls := .type "set", dict := none, data := .set #[] 0 (.fresh 0 0 (!w.params.followText "set-order")) } } (.ref s.heap.objs.size) "set" := ⟨_, gS, rfl⟩
      have li0 := PySem.F.called_set.init.lookup
      have bi0 := PySem.F.called_set.init.bind (.ref s.heap.objs.size)
      (repeat (any_goals (first | assumption | wp_step)))
      refine codeAny_mono (codeAny_call_builtin (R := wants (fun r s2 => r = .none ∧ ∃ h' tk c, s2 = { s with heap := h', toks := tk } ∧ SetR w h' s.heap.objs.size (fun j => decide (j ∈ ns)) c ∧ c ≤ ns.length ∧
          (∀ b o, s.heap.get? b = some o → h'.get? b = some o)) E) PySem.F.called_set.init.plain PySem.F.entry_set_init (check_set_init_1 tS ?_)) fun r2 s2 hr2 => ?_
      · obtain ⟨⟨oc, od, dt, sl⟩, hol, hcl, nl, hdl⟩ := hl
        simp only at hcl hdl
        subst hcl; subst hdl
        have gl : (s.heap.push { cls := .type "set", dict := none, data := .set #[] 0 (.fresh 0 0 (!w.params.followText "set-order")) }).get? l = some { cls := .type "list", dict := od, data := .seq items nl, slots := sl } := Heap.get?_push_of_some _ hol
        have s1 := PySem.F.sub_list_set
        have s2 := PySem.F.sub_list_frozenset
        have s3 : (Value.type "list" == Value.type "dict") = false := by decide
        have gl1 : (s.heap.push { cls := .type "set", dict := none, data := .set #[] 0 (.fresh 0 0 (!w.params.followText "set-order")) }).IsList l items := ⟨_, gl, rfl, nl, rfl⟩
        (unfold Builtin.«set.__init__» noKeywords Builtin.Frozenset.updateFrom; generalize hPI : pyIter = PI; wp_walk; subst hPI)
        refine wpAny_pyIter_list gl1 (wpAny_bind (wpAny_runValue ?_))
        have lS : l < s.heap.objs.size := Heap.lt_size hol
        have h3 : A.in1.in1.in1.handled = none := by simp [hh]
        have n1 : l ≠ (s.heap.push { cls := .type "set", dict := none, data := .set #[] 0 (.fresh 0 0 (!w.params.followText "set-order")) }).objs.size := by rw [Heap.size_push]; exact Nat.ne_of_lt (Nat.lt_succ_of_lt lS)
        have nS : s.heap.objs.size ∉ [(s.heap.push { cls := .type "set", dict := none, data := .set #[] 0 (.fresh 0 0 (!w.params.followText "set-order")) }).objs.size, l] := by
          (rw [Heap.size_push]; simp only [List.mem_cons, List.not_mem_nil, or_false, not_or]; exact ⟨Nat.ne_of_lt (Nat.lt_succ_self _), Nat.ne_of_gt lS⟩)
        refine set_update_ints (P := P) (w := w) ((Walks.list h3 _ l n1 items).toS) s.heap.objs.size nS ns sz hb (fun i v hv => ?_) (items.size - 0) 0 _ (by omega) (Nat.zero_le _) ⟨⟨_, Heap.get?_push_size _ rfl, rfl, rfl⟩, (gl1.push _)⟩ ?hA ?hB
        · have hv' : items.toList[i]? = some v := by rw [Array.getElem?_toList]; exact hv
          have hil : i < ns.length := by
            have := (List.getElem?_eq_some_iff.mp hv').1
            rw [Array.length_toList] at this
            omega
          obtain ⟨t, ht⟩ := hi.get i _ (List.getElem?_eq_getElem hil)
          rw [hv'] at ht
          exact ⟨_, t, List.getElem?_eq_getElem hil, Option.some.inj ht⟩
        case hA =>
          exact ⟨0, Nat.le_refl _, setR_new_at (Heap.get?_push_of_some _ gS)⟩
        case hB =>
          intro s' c hm hc hS'
          obtain ⟨h', g', d', tk', os'⟩ := s'
          obtain rfl : g' = s.gens := hm.gens
          obtain rfl : d' = s.drawn := hm.drawn
          obtain rfl : os' = s.os := hm.os
          (show wpAny _ _ _ _ _ _; refine wpAny_pure ?_; show wpAny _ _ (ret Value.none) _ _ _; refine wpAny_pure ⟨rfl, h', tk', c, rfl, hS', by omega, fun b o e => ?_⟩)
          have hb' := Heap.lt_size e
          have b1 : b ≠ s.heap.objs.size := Nat.ne_of_lt hb'
          have b2 : b ≠ (s.heap.push { cls := .type "set", dict := none, data := .set #[] 0 (.fresh 0 0 (!w.params.followText "set-order")) }).objs.size := by rw [Heap.size_push]; exact Nat.ne_of_lt (Nat.lt_succ_of_lt hb')
          exact hm.heap b o (by simp only [List.mem_cons, List.not_mem_nil, or_false, not_or]; exact ⟨b1, b2⟩) (Heap.get?_push_of_some _ (Heap.get?_push_of_some _ e))
      · cases r2 with
        | error e => exact hr2
        | ok f2 =>
          cases f2 with
          | ret rr =>
            obtain ⟨rfl, h', tk, c, rfl, hS', hc, kp⟩ := hr2
            (repeat (any_goals (first | assumption | wp_step)))
            exact h _ _ _ hS' hc kp
          | _ => exact hr2.elim
    | _ => exact hr.elim
end
section
variable {X : Cx}
def rSetLI (K : Frag) (w : World) : List V → Hp → VK → Prop := fun xs H Q => ∃ (l : Addr) (ns : List Int), xs = [.ref l] ∧ SqL K H l (ixs ns) ∧ ns.length < 64 ∧ ∀ p c, H p = none → c ≤ ns.length → Q (.ref p) (upd H p (SetO w p (fun j => decide (j ∈ ns)) c))
theorem cr_setLI (hc : X.calm = true) : CallR X (.type "set") (rSetLI X.K X.w) := by
  intro pins s σ H vs us Q I r h
  obtain ⟨l, ns, rfl, hq, hl, q⟩ := h
  obtain ⟨its, rv, pl, hz⟩ := I.list hq
  rw [Vals.ref1 r]
  refine call_setI ns (I.ok.hd hc) pl.isList (by simpa using ints_of_vals (show Vals (ns.map V.int) its from rv)) (by unfold scanBound; omega) fun h' tk c hS hcn kp => ?_
  exact ⟨.ref _, upd H s.heap.objs.size (SetO X.w s.heap.objs.size (fun j => decide (j ∈ ns)) c), I.laid (t' := tk) kp (Nat.le_refl _) (setO_new hS), rfl, q _ c (I.hok.fresh (Nat.le_refl _)) hcn⟩
/-- sorted(set(list of ints)) -/
def tSortSet (K : Frag) (ta : TE) : TE := fun σ H Q => ta σ H fun x H1 => ∃ (l : Addr) (ns : List Int), x = .ref l ∧ SqL K H1 l (ixs ns) ∧ ns.length < 64 ∧
  ∀ (ys : List Int) (p : Addr) (H2 : Hp), ys.Pairwise (· < ·) → (∀ k : Int, k ∈ ys ↔ k ∈ ns) → H1 p = none → Ex H1 H2 → H2 p = some (.lst (ixs ys)) → Q (.ref p) H2
theorem pe_sortSet {a : Expr} {ta : TE} {p p2 q pos : Pos} (hg : Gl X "sorted") (hm : X.mg "sorted" = none) (hg2 : Gl X "set") (hm2 : X.mg "set" = none) (ha : PE X a ta) (hc : X.calm = true := by rfl)
    (na : starEach [a] X.env = (false, eval a X.env) :: starEach [] X.env := by rfl) (nb : starEach [Expr.Call (.Name "set" p2) [a] [] q] X.env = (false, eval (.Call (.Name "set" p2) [a] [] q) X.env) :: starEach [] X.env := by rfl) :
    PE X (.Call (.Name "sorted" p) [.Call (.Name "set" p2) [a] [] q] [] pos) (tSortSet X.K ta) := by
  refine ⟨fun pins s σ H Q I h => Call_ (ld_blt I hg hm (u := .builtin "sorted") (by first | rfl | decide +kernel) (PyProof.Rows.callWith_builtin1 (PyProof.Rows.args_cons (Call_ (ld_blt I hg2 hm2 boot_set ?_)) rfl) rfl rfl) (by first | decide +kernel | decide) (by first | decide +kernel | decide))⟩
  refine PyProof.Rows.callWith_type1 (PyProof.Rows.args_cons (thn (ha.run pins s σ H _ I h) fun v s1 ⟨x, H1, I1, r1, q1⟩ => PyProof.Rows.args_nil ?_) na) na rfl
  obtain ⟨l, ns, rfl, hq, hl, q1⟩ := q1
  cases r1
  refine thn (cr_setLI hc pins s1 σ H1 [.ref l] [.ref l] (fun y H2 => ∃ p c, y = .ref p ∧ H2 = upd H1 p (SetO X.w p (fun j => decide (j ∈ ns)) c) ∧ H1 p = none ∧ c ≤ ns.length) I1 (.cons rfl .nil) ⟨l, ns, rfl, hq, hl, fun p c hp hc => ⟨p, c, rfl, rfl, hp, hc⟩⟩) fun v2 s2 ⟨y, H2, I2, r2, q2⟩ => PyProof.Rows.args_nil ?_
  obtain ⟨p, c, rfl, rfl, hp, hcn⟩ := q2
  cases r2
  exact cr_sortedSet hc pins s2 σ _ [.ref p] [.ref p] Q I2 (.cons rfl .nil) ⟨p, _, c, rfl, upd_same, by omega, fun ys p' hup hmem hlen hp' => q1 ys p' _ hup (fun k => (hmem k).trans decide_eq_true_iff) (fresh_back (Evl.Ex.new hp) hp') (Ex.trs (Evl.Ex.new hp) (Evl.Ex.new hp')) upd_same⟩
end
end RW

/-! P1: the laws' helpers that draw words: promises and what their bodies do. -/
namespace RW
open PySem PySem.Spec PyProof.Rows L2
open Evl (Ex ex_l ex_t ex_rd fresh_back)
local macro_rules | `(tactic| walk_at "x") => `(tactic| first
  | ((with_reducible apply x_var); exact rfl)
  | with_reducible refine x_c ?_
  | with_reducible refine x_op ?_
  | with_reducible refine x_un ?_
  | with_reducible refine x_neg ?_
  | with_reducible refine x_addI ?_
  | with_reducible refine x_subI ?_
  | with_reducible refine x_ltI ?_
  | with_reducible refine x_ltS ?_
  | with_reducible refine x_leI ?_
  | with_reducible refine x_leS ?_
  | with_reducible refine x_gtI ?_
  | with_reducible refine x_gtS ?_
  | with_reducible refine x_geI ?_
  | with_reducible refine x_eqI ?_
  | with_reducible refine x_eqS ?_
  | with_reducible refine x_eqB ?_
  | with_reducible refine x_neI ?_
  | with_reducible refine x_neS ?_
  | with_reducible refine x_isN ?_
  | with_reducible refine x_isB ?_
  | with_reducible refine x_isNotN ?_
  | with_reducible refine x_isNotB ?_
  | with_reducible refine x_inS ?_
  | with_reducible refine x_sl ?_
  | with_reducible refine x_part ?_
  | with_reducible refine x_nopart ?_
  | with_reducible refine x_rev ?_
  | with_reducible refine x_nil ?_
  | with_reducible refine x_cons ?_
  | with_reducible refine x_lst0 ?_
  | with_reducible refine x_tup0 ?_
  | with_reducible refine x_call0 ?_
  | with_reducible refine x_callS ?_
  | with_reducible refine x_cb ?_
  | with_reducible refine x_m1 ?_
  | with_reducible refine x_m1s ?_
  | with_reducible refine x_bm ?_
  | with_reducible refine x_bm0 ?_
  | with_reducible refine x_tyS ?_
  | with_reducible refine x_max2 ?_
  | with_reducible refine x_min2 ?_
  | with_reducible refine x_seq ?_
  | with_reducible refine x_asg ?_
  | with_reducible refine x_asgG ?_
  | with_reducible refine x_ret ?_
  | with_reducible refine x_retN ?_
  | with_reducible refine x_if ?_
  | with_reducible refine x_next ?_
  | with_reducible refine x_drop ?_
  | with_reducible refine x_break ?_
  | with_reducible refine x_cont ?_
  | with_reducible refine x_par ?_
  | with_reducible refine x_par2 ?_
  | ((with_reducible apply x_aug); exact rfl)
  | with_reducible refine x_ip ?_
  | with_reducible refine x_test ?_
  | with_reducible refine x_tB ?_
  | with_reducible refine x_bl ?_
  | with_reducible refine x_and ?_
  | with_reducible refine x_or ?_
  | with_reducible refine x_not ?_
  | with_reducible refine x_andV ?_
  | with_reducible refine x_orV ?_
  | with_reducible refine x_notV ?_
  | with_reducible refine x_ifV ?_
  | with_reducible refine x_chain ?_
  | with_reducible refine x_intA ?_
  | with_reducible refine x_strA ?_
  | with_reducible refine x_yes ?_
  | with_reducible refine iteT ?_
  | with_reducible refine iteF ?_
  | with_reducible refine x_forRng1 ?_
  | with_reducible refine x_forRng2 ?_
  | with_reducible refine x_forLst ?_
  | with_reducible refine x_forU ?_
  | with_reducible refine x_lcRng1 ?_
  | with_reducible refine x_lcRng2 ?_
  | with_reducible refine x_lcLst ?_
  | with_reducible refine x_lcU ?_
  | with_reducible refine x_uS ?_
  | with_reducible refine x_gcons ?_
  | with_reducible refine x_gnil ?_
  -- with side conditions
  | ((with_reducible refine x_addS ?hs ?_); (case hs => walk_at "sz"))
  | ((with_reducible refine x_divI ?hs ?ht ?_); (case hs => walk_at "sz"); (case ht => walk_at "sz"))
  | ((with_reducible refine x_modI ?hs ?_); (case hs => walk_at "sz"))
  | ((with_reducible refine x_mulI ?hs ?_); (case hs => walk_at "sz"))
  | ((with_reducible refine x_lenS ?hs ?_); (case hs => walk_at "sz"))
  | ((with_reducible refine x_slSlo ?hs ?_); (case hs => walk_at "sz"))
  | ((with_reducible refine x_slShi ?hs ?_); (case hs => walk_at "sz"))
  | ((with_reducible refine x_slSlohi ?hs ?_); (case hs => walk_at "sz"))
  | ((with_reducible refine x_slShiNeg ?hs ?_); (case hs => walk_at "sz"))
  | ((with_reducible refine x_slSloI ?ht ?hs ?_); (case ht => walk_at "sz"); (case hs => walk_at "sz"))
  | ((with_reducible refine x_slShiI ?ht ?hs ?_); (case ht => walk_at "sz"); (case hs => walk_at "sz"))
  | ((with_reducible refine x_rng1 ?hs ?ht ?_); (case hs => walk_at "sz"); (case ht => walk_at "sz"))
  | ((with_reducible refine x_rng2 ?hs ?_); (case hs => walk_at "sz"))
  | ((with_reducible refine x_newL ?hs ?_); (case hs => walk_at "sz"); intro px Hx npx ex hpx)
  | ((with_reducible refine x_newT ?hs ?_); (case hs => walk_at "sz"); intro px Hx npx ex hpx)
  | ((with_reducible apply x_lenL); (walk_at "hp"))
  | ((with_reducible apply x_refL); (walk_at "hp"))
  | ((with_reducible apply x_uL); (walk_at "hp"))
  | ((with_reducible apply x_tyL); (walk_at "hp"))
  )
local macro_rules | `(tactic| walk_at "xs") => `(tactic| repeat (walk_at "x"))
/- sizes, bounds -/
local macro_rules | `(tactic| walk_at "sz") => `(tactic| first
  | with_reducible assumption
  | (rw [sizeLine_eq]; first | omega | (simp only [List.length_cons, List.length_nil, List.length_append, List.length_map, List.length_reverse, List.length_range, List.length_drop, List.length_take, List.length_dropLast]; omega))
  | omega
  | (unfold CMul; omega)
  | (simp only [List.length_cons, List.length_nil, List.length_append, List.length_map, List.length_reverse, List.length_range, List.length_drop, List.length_take, List.length_dropLast]; omega))
/- what stands in the heap -/
local macro_rules | `(tactic| walk_at "hp") => `(tactic| first
  | assumption
  | ((with_reducible apply SqL.of); walk_at "hp")
  | ((with_reducible apply SqT.of); walk_at "hp")
  | ((with_reducible apply Ex.at_); assumption; walk_at "hp")
  | ((with_reducible apply ex_l); assumption; walk_at "hp")
  | ((with_reducible apply ex_t); assumption; walk_at "hp"))
local macro_rules | `(tactic| walk_at "ex") => `(tactic| first
  | assumption
  | exact Ex.rfl'
  | (refine Ex.trs ?_ (by assumption); walk_at "ex"))
/- an item at a place within: what is left speaks of the item -/
local macro_rules | `(tactic| walk_at "ix") => `(tactic| ((with_reducible apply x_ixLm); (walk_at "hp"); (walk_at "sz"); (walk_at "sz")))
local macro_rules | `(tactic| walk_at "is") => `(tactic| ((with_reducible apply x_ixSm); (walk_at "sz"); (walk_at "sz"); (walk_at "sz")))

/-- the slots at a def's entry -/
def st0 (n : Nat) (vs : List V) : L2.St := vs.map some ++ List.replicate (n - vs.length) none
/-- what is wanted behind a def's body -/
abbrev D0 (Q : VK) : Ends := ⟨fun _ H' => Q .non H', Q, fun _ _ => False, fun _ _ => False⟩
section
variable {g : G} {vs : List V} {H : Hp} {Q : VK} {E : XK}
/-! ### _law_cell_at -/
def sp_law_cell_at (g : G) : Sp := fun vs H Q _ => ∃ a ns k, vs = [.ref a, .int k] ∧ SqL g.K H a (ixs ns) ∧ 0 ≤ k ∧ k ≤ 1000 ∧ ns.length ≤ 100 ∧ ∀ n H', Ex H H' → Q (.int n) H'
/-- _law_cell_at: slots _law_script, _law_k -/
def t_law_cell_at (g : G) : TS :=
  tSeq (tIfS (tTest (tOp uLt (tVar 1) (tCB (rLen g.K) (tCons (tVar 0) tNil)))) (tRet (tOp (rIx g.K) (tVar 0) (tVar 1))) tNext)
    (tRet (tOp uMul (tOp uMul (tOp (uAdd g.K) (tVar 1) (tC (.int 3))) (tOp (uAdd g.K) (tVar 1) (tC (.int 7)))) (tC (.int 7919))))
theorem p_law_cell_at (h : sp_law_cell_at g vs H Q E) : t_law_cell_at g (D0 Q) (st0 2 vs) H := by
  obtain ⟨a, ns, k, rfl, ha, k0, k1, hn, q⟩ := h
  show t_law_cell_at g (D0 Q) [some (.ref a), some (.int k)] H
  unfold t_law_cell_at
  walk_at "xs"
  refine x_ifd (fun hk => ?_) (fun hk => ?_)
  · walk_at "xs"
    refine x_ixLm ha k0 hk fun v hv _ => ?_
    obtain ⟨n, _, rfl⟩ := List.mem_map.mp hv
    exact q n H (by walk_at "ex")
  · walk_at "xs"
    exact q _ H (by walk_at "ex")
/-! ### _law_mixed -/
/-- the law's mixing -/
def mixF (c k : Int) : Int := ((c + 7919 * k + 11) * 48271 % 2147483647 * ((c + 7919 * k + 11) * 48271 % 2147483647) + 40692 * ((c + 7919 * k + 11) * 48271 % 2147483647)) % 2147483399
def sp_law_mixed (g : G) : Sp := fun vs H Q _ => ∃ c k, vs = [.int c, .int k] ∧ ∀ n H', n = mixF c k → 0 ≤ n → n < 2147483399 → Ex H H' → Q (.int n) H'
theorem c_law_mixed {c k : Int} (q : ∀ n H', 0 ≤ n → n < 2147483399 → Ex H H' → Q (.int n) H') : sp_law_mixed g [.int c, .int k] H Q E := ⟨c, k, rfl, fun n H' _ h1 h2 e => q n H' h1 h2 e⟩
theorem c_law_mixedD {c k : Int} (q : ∀ H', 0 ≤ mixF c k → mixF c k < 2147483399 → Ex H H' → Q (.int (mixF c k)) H') : sp_law_mixed g [.int c, .int k] H Q E := ⟨c, k, rfl, fun n H' h h1 h2 e => by subst h; exact q H' h1 h2 e⟩
/-- _law_mixed: slots _law_cell, _law_k, _law_mix -/
def t_law_mixed (g : G) : TS :=
  tSeq (tAsg (tOp uMod (tOp uMul (tOp (uAdd g.K) (tOp (uAdd g.K) (tVar 0) (tOp uMul (tC (.int 7919)) (tVar 1))) (tC (.int 11))) (tC (.int 48271))) (tC (.int 2147483647))) (gName 2))
    (tRet (tOp uMod (tOp (uAdd g.K) (tOp uMul (tVar 2) (tVar 2)) (tOp uMul (tC (.int 40692)) (tVar 2))) (tC (.int 2147483399))))
theorem p_law_mixed (h : sp_law_mixed g vs H Q E) : t_law_mixed g (D0 Q) (st0 3 vs) H := by
  obtain ⟨c, k, rfl, q⟩ := h
  show t_law_mixed g (D0 Q) [some (.int c), some (.int k), none] H
  unfold t_law_mixed
  walk_at "xs"
  exact q _ H rfl (Int.emod_nonneg _ (by decide)) (Int.emod_lt_of_pos _ (by decide)) (by walk_at "ex")
local macro_rules | `(tactic| walk_at "c1") => `(tactic| ((with_reducible refine c_law_mixed ?_); intro mx Hx mx0 mx1 ex))
local macro_rules | `(tactic| walk_at "y") => `(tactic| repeat (first | walk_at "x" | walk_at "c1"))
/-! ### _law_signs -/
def sp_law_signs (g : G) : Sp := fun vs H Q _ => ∃ c, vs = [.int c] ∧ ∀ l H', Letters l → 1 ≤ l.length → l.length ≤ 26 → Ex H H' → Q (.str (ST l)) H'
theorem c_law_signs {c : Int} (q : ∀ l H', Letters l → 1 ≤ l.length → l.length ≤ 26 → Ex H H' → Q (.str (ST l)) H') : sp_law_signs g [.int c] H Q E := ⟨c, rfl, q⟩
/-- _law_signs: slots _law_cell, _law_letters, _law_many, _law_step, _law_found, _law_k -/
def t_law_signs (g : G) : TS :=
  tSeq (tAsg (tC (.str (ST [97, 98, 99, 100, 101, 102, 103, 104, 105, 106, 107, 108, 109, 110, 111, 112, 113, 114, 115, 116, 117, 118, 119, 120, 121, 122]))) (gName 1))
    (tSeq (tAsg (tOp (rIx g.K) (tLst (tCons (tC (.int 1)) (tCons (tC (.int 2)) (tCons (tC (.int 2)) (tCons (tC (.int 3)) (tCons (tC (.int 2)) (tCons (tC (.int 4)) (tCons (tC (.int 5)) (tCons (tC (.int 26)) tNil))))))))) (tOp uMod (tOp uDiv (tCall (sp_law_mixed g) [] E0 (tCons (tVar 0) (tCons (tC (.int 201)) tNil))) (tC (.int 7))) (tC (.int 8)))) (gName 2))
    (tSeq (tAsg (tOp (rIx g.K) (tLst (tCons (tC (.int 1)) (tCons (tC (.int 3)) (tCons (tC (.int 5)) tNil)))) (tOp uMod (tOp uDiv (tCall (sp_law_mixed g) [] E0 (tCons (tVar 0) (tCons (tC (.int 202)) tNil))) (tC (.int 7))) (tC (.int 3)))) (gName 3))
    (tSeq (tAsg (tLc (iRng1 (tCons (tVar 2) tNil)) (gName 5) tYes (tOp (rIx g.K) (tVar 1) (tOp uMod (tOp (uAdd g.K) (tOp uDiv (tCall (sp_law_mixed g) [] E0 (tCons (tVar 0) (tCons (tC (.int 203)) tNil))) (tC (.int 7))) (tOp uMul (tVar 3) (tVar 5))) (tC (.int 26)))) [5]) (gName 4))
    (tRet (tM1 (rJoin g.K) (tC (.str (ST []))) (tCB (rSortedTx g.K) (tCons (tVar 4) tNil)))))))
/-- the sum of the lengths of texts of one sign -/
theorem flat_one : ∀ {ls : List (List Nat)}, (∀ l ∈ ls, l.length = 1) → ls.flatten.length = ls.length
  | [], _ => rfl
  | l :: ls, h => by
    rw [List.flatten_cons, List.length_append, flat_one fun m hm => h m (List.mem_cons_of_mem _ hm), h l List.mem_cons_self, List.length_cons]
    omega
theorem Letters.flat {ls : List (List Nat)} (h : ∀ l ∈ ls, Letters l) : Letters ls.flatten := fun c hc => by
  rw [List.mem_flatten] at hc
  obtain ⟨l, hl, hc⟩ := hc
  exact h l hl c hc
theorem abc_letters : Letters [97, 98, 99, 100, 101, 102, 103, 104, 105, 106, 107, 108, 109, 110, 111, 112, 113, 114, 115, 116, 117, 118, 119, 120, 121, 122] := by
  unfold Letters Letter
  decide
theorem p_law_signs (h : sp_law_signs g vs H Q E) : t_law_signs g (D0 Q) (st0 6 vs) H := by
  obtain ⟨c, rfl, q⟩ := h
  show t_law_signs g (D0 Q) [some (.int c), none, none, none, none, none] H
  unfold t_law_signs
  walk_at "y"
  walk_at "ix"
  intro v hv _
  obtain ⟨n, rfl, hn1, hn2⟩ : ∃ n : Int, v = .int n ∧ 1 ≤ n ∧ n ≤ 26 := by
    simp only [List.mem_cons, List.not_mem_nil, or_false] at hv
    rcases hv with rfl | rfl | rfl | rfl | rfl | rfl | rfl | rfl <;> exact ⟨_, rfl, by decide, by decide⟩
  walk_at "y"
  walk_at "ix"
  intro v hv _
  obtain ⟨m, rfl, hm1, hm2⟩ : ∃ n : Int, v = .int n ∧ 1 ≤ n ∧ n ≤ 5 := by
    simp only [List.mem_cons, List.not_mem_nil, or_false] at hv
    rcases hv with rfl | rfl | rfl <;> exact ⟨_, rfl, by decide, by decide⟩
  walk_at "y"
  refine x_lcRp (fun _ y => ∃ l, y = .str (ST l) ∧ (Letters l ∧ l.length = 1)) (by omega) (fun _ => rfl) (fun i H' hi e R hR => ?_) fun ys p' H' hyl hy hpn e hp' => ?_
  · walk_at "y"
    walk_at "is"
    intro ch hch _
    exact hR _ _ ⟨[ch], rfl, fun c hc => by rw [List.mem_singleton.mp hc]; exact abc_letters ch hch, rfl⟩ (by walk_at "ex")
  · obtain ⟨ls, rfl, hls⟩ := tx_ex (P := fun l => Letters l ∧ l.length = 1) fun y hy' => by
      obtain ⟨i, hi⟩ := List.getElem?_of_mem hy'
      exact hy i y hi
    walk_at "y"
    refine x_sortedL (by walk_at "hp") fun zs p2 H2 hperm hasc hp2 e2 hl2 => ?_
    have hz1 : ∀ l ∈ zs, Letters l ∧ l.length = 1 := fun l hl => hls l (hperm.mem_iff.mp hl)
    have hzl : zs.length = n.toNat := by rw [hperm.length_eq, ← hyl, tx_len]
    have hfl := flat_one fun l hl => (hz1 l hl).2
    refine x_join (by walk_at "hp") (by omega) ?_
    exact q _ _ (Letters.flat fun l hl => (hz1 l hl).1) (by omega) (by omega) (by walk_at "ex")
/-! ### _law_drawn -/
def sp_law_drawn (g : G) : Sp := fun vs H Q _ => ∃ c l k, vs = [.int c, .str (ST l), .int k] ∧ Letters l ∧ 1 ≤ l.length ∧ l.length ≤ 1000 ∧ 0 ≤ k ∧ k ≤ 1000 ∧ ∀ m H', Letters m → (m.length : Int) = k → Ex H H' → Q (.str (ST m)) H'
theorem c_law_drawn {c k : Int} {l : List Nat} (h1 : Letters l) (h2 : 1 ≤ l.length) (h3 : l.length ≤ 1000) (h4 : 0 ≤ k) (h5 : k ≤ 1000) (q : ∀ m H', Letters m → (m.length : Int) = k → Ex H H' → Q (.str (ST m)) H') : sp_law_drawn g [.int c, .str (ST l), .int k] H Q E := ⟨c, l, k, rfl, h1, h2, h3, h4, h5, q⟩
/-- _law_drawn: slots _law_cell, _law_signs_here, _law_many, _law_k -/
def t_law_drawn (g : G) : TS :=
  tRet (tM1 (rJoin g.K) (tC (.str (ST []))) (tLc (iRng1 (tCons (tVar 2) tNil)) (gName 3) tYes (tOp (rIx g.K) (tVar 1) (tOp uMod (tOp uDiv (tCall (sp_law_mixed g) [] E0 (tCons (tVar 0) (tCons (tOp (uAdd g.K) (tC (.int 210)) (tVar 3)) tNil))) (tC (.int 7))) (tCB (rLen g.K) (tCons (tVar 1) tNil)))) [3]))
theorem p_law_drawn (h : sp_law_drawn g vs H Q E) : t_law_drawn g (D0 Q) (st0 4 vs) H := by
  obtain ⟨c, l, k, rfl, hl, hl1, hl2, k0, k1, q⟩ := h
  show t_law_drawn g (D0 Q) [some (.int c), some (.str (ST l)), some (.int k), none] H
  unfold t_law_drawn
  walk_at "y"
  refine x_lcRp (fun _ y => ∃ l, y = .str (ST l) ∧ (Letters l ∧ l.length = 1)) (by omega) (fun _ => rfl) (fun i H' hi e R hR => ?_) fun ys p' H' hyl hy hpn e hp' => ?_
  · walk_at "y"
    refine x_ixSm (by walk_at "sz") (Int.emod_nonneg _ (by omega)) (Int.emod_lt_of_pos _ (by omega)) fun ch hch _ => ?_
    exact hR _ _ ⟨[ch], rfl, fun c hc => by rw [List.mem_singleton.mp hc]; exact hl ch hch, rfl⟩ (by walk_at "ex")
  · obtain ⟨ls, rfl, hls⟩ := tx_ex (P := fun l => Letters l ∧ l.length = 1) fun y hy' => by
      obtain ⟨i, hi⟩ := List.getElem?_of_mem hy'
      exact hy i y hi
    walk_at "y"
    have hfl := flat_one fun l hl => (hls l hl).2
    rw [tx_len] at hyl
    refine x_join (by walk_at "hp") (by omega) ?_
    exact q _ _ (Letters.flat fun l hl => (hls l hl).1) (by omega) (by walk_at "ex")
/-! ### _law_woven -/
def sp_law_woven (g : G) : Sp := fun vs H Q _ => ∃ l k, vs = [.str (ST l), .int k] ∧ Letters l ∧ 1 ≤ l.length ∧ l.length ≤ 1000 ∧ 0 ≤ k ∧ k ≤ 1000 ∧ ∀ m H', Letters m → (m.length : Int) = k → Ex H H' → Q (.str (ST m)) H'
theorem c_law_woven {k : Int} {l : List Nat} (h1 : Letters l) (h2 : 1 ≤ l.length) (h3 : l.length ≤ 1000) (h4 : 0 ≤ k) (h5 : k ≤ 1000) (q : ∀ m H', Letters m → (m.length : Int) = k → Ex H H' → Q (.str (ST m)) H') : sp_law_woven g [.str (ST l), .int k] H Q E := ⟨l, k, rfl, h1, h2, h3, h4, h5, q⟩
/-- _law_woven: slots _law_signs_here, _law_many, _law_one, _law_other -/
def t_law_woven (g : G) : TS :=
  tSeq (tPar 2 3 (tCons (tOp (rIx g.K) (tVar 0) (tC (.int 0))) (tCons (tOp (uAdd g.K) (tOp (rIx g.K) (tVar 0) (tUn (rU fun i => .int (-i)) (tC (.int 1)))) (tOp (rIx g.K) (tVar 0) (tC (.int 0)))) tNil)))
    (tSeq (tWhile (tTest (tOp uLt (tCB (rLen g.K) (tCons (tVar 3) tNil)) (tVar 1))) (tPar 2 3 (tCons (tVar 3) (tCons (tOp (uAdd g.K) (tVar 3) (tVar 2)) tNil))))
    (tRet (tSl (rSlU g.K) (tVar 3) tNoPart (tPart (tVar 1)))))
theorem p_law_woven (h : sp_law_woven g vs H Q E) : t_law_woven g (D0 Q) (st0 4 vs) H := by
  obtain ⟨l, k, rfl, hl, hl1, hl2, k0, k1, q⟩ := h
  show t_law_woven g (D0 Q) [some (.str (ST l)), some (.int k), none, none] H
  unfold t_law_woven
  walk_at "y"
  refine x_ixSm (by walk_at "sz") (by omega) (by omega) fun c0 hc0 _ => ?_
  walk_at "y"
  refine x_ixSlast (by walk_at "sz") (by intro h; rw [h] at hl1; exact absurd hl1 (by decide)) fun c1 hc1 _ => ?_
  walk_at "y"
  refine x_ixSm (by walk_at "sz") (by omega) (by omega) fun c2 hc2 _ => ?_
  walk_at "y"
  have hL : ∀ c, c ∈ l → Letters [c] := fun c hc d hd => by rw [List.mem_singleton.mp hd]; exact hl c hc
  refine x_whileB (fun (ab : List Nat × List Nat) => [some (.str (ST l)), some (.int k), some (.str (ST ab.1)), some (.str (ST ab.2))])
    (fun ab H' => Ex H H' ∧ Letters ab.1 ∧ Letters ab.2 ∧ 1 ≤ ab.1.length ∧ ab.1.length ≤ ab.2.length ∧ ab.2.length ≤ 3000) (fun ab => 4000 - ab.2.length) ([c0], [c1] ++ [c2]) rfl ⟨Ex.rfl', hL _ hc0, (hL _ hc1).app (hL _ hc2), by simp, by simp, by simp⟩ ?_
  rintro ⟨a, b⟩ H1 ⟨e, ha, hb, h1, h2, h3⟩ P hP
  simp only at ha hb h1 h2 h3
  walk_at "y"
  refine hP _ _ Ex.rfl' (fun hd => ?_) fun hd => ?_
  · have hd := of_decide_eq_true hd
    simp only at hd
    walk_at "y"
    refine ⟨(b, b ++ a), rfl, ⟨e, hb, hb.app ha, ?_, ?_, ?_⟩, ?_⟩
    · simp only; omega
    · simp only [List.length_append]; omega
    · simp only [List.length_append]; omega
    · simp only [List.length_append]; omega
  · have hd := of_decide_eq_false hd
    simp only at hd
    have hd' : ¬ ((b.length : Int) < k) := hd
    walk_at "y"
    exact q _ _ (hb.take _) (by simp only [List.length_take]; omega) e
/-! ### _law_word -/
theorem signs_flat : ∀ l : List Nat, (signs l).flatten = l
  | [] => rfl
  | c :: l => by
    show (signs (c :: l)).flatten = c :: l
    rw [show signs (c :: l) = [c] :: signs l from rfl, List.flatten_cons, signs_flat l]
    rfl
theorem signs_perm {m : List Nat} {ys : List (List Nat)} (hm : Letters m) (h : ys.Perm (signs m)) : Letters ys.flatten ∧ ys.flatten.length = m.length := by
  have h2 := h.flatten
  rw [signs_flat] at h2
  exact ⟨fun c hc => hm c (h2.mem_iff.mp hc), h2.length_eq⟩
def sp_law_word (g : G) : Sp := fun vs H Q _ => ∃ c k, vs = [.int c, .int k] ∧ 1 ≤ k ∧ k ≤ 300 ∧ ∀ m H', Letters m → 1 ≤ m.length → (m.length : Int) ≤ k → Ex H H' → Q (.str (ST m)) H'
theorem c_law_word {c k : Int} (h4 : 1 ≤ k) (h5 : k ≤ 300) (q : ∀ m H', Letters m → 1 ≤ m.length → (m.length : Int) ≤ k → Ex H H' → Q (.str (ST m)) H') : sp_law_word g [.int c, .int k] H Q E := ⟨c, k, rfl, h4, h5, q⟩
local macro_rules | `(tactic| walk_at "c1") => `(tactic| ((with_reducible refine c_law_signs ?_); intro lx Hx lx0 lx1 lx2 ex))
/-- _law_word: slots _law_cell, _law_most, _law_signs_here, _law_many, _law_base, _law_again, _law_at, _law_way -/
def t_law_word (g : G) : TS :=
  tSeq (tAsg (tCall (sp_law_signs g) [] E0 (tCons (tVar 0) tNil)) (gName 2))
    (tSeq (tAsg (tOp (uAdd g.K) (tC (.int 1)) (tOp uMod (tOp uDiv (tCall (sp_law_mixed g) [] E0 (tCons (tVar 0) (tCons (tC (.int 1)) tNil))) (tC (.int 7))) (tVar 1))) (gName 3))
    (tSeq (tAsg (tCall (sp_law_drawn g) [] E0 (tCons (tVar 0) (tCons (tVar 2) (tCons (tOp (uAdd g.K) (tC (.int 1)) (tOp uMod (tOp uDiv (tCall (sp_law_mixed g) [] E0 (tCons (tVar 0) (tCons (tC (.int 2)) tNil))) (tC (.int 7))) (tCB (rMinU g.K) (tCons (tVar 3) (tCons (tC (.int 7)) tNil))))) tNil)))) (gName 4))
    (tSeq (tAsg (tSl (rSlU g.K) (tOp uMul (tVar 4) (tVar 3)) tNoPart (tPart (tVar 3))) (gName 5))
    (tSeq (tAsg (tOp uMod (tOp uDiv (tCall (sp_law_mixed g) [] E0 (tCons (tVar 0) (tCons (tC (.int 3)) tNil))) (tC (.int 7))) (tVar 3)) (gName 6))
    (tSeq (tAsg (tOp uMod (tOp uDiv (tCall (sp_law_mixed g) [] E0 (tCons (tVar 0) (tCons (tC (.int 4)) tNil))) (tC (.int 7))) (tC (.int 9))) (gName 7))
    (tSeq (tIfS (tTest (tOp (uEq g.K) (tVar 7) (tC (.int 0)))) (tRet (tVar 5)) tNext)
    (tSeq (tIfS (tTest (tOp (uEq g.K) (tVar 7) (tC (.int 1)))) (tRet (tOp uMul (tVar 4) (tCB rMax2 (tCons (tC (.int 1)) (tCons (tOp uDiv (tVar 3) (tCB (rLen g.K) (tCons (tVar 4) tNil))) tNil))))) tNext)
    (tSeq (tIfS (tTest (tOp (uEq g.K) (tVar 7) (tC (.int 2)))) (tRet (tOp uMul (tOp (rIx g.K) (tVar 2) (tUn (rU fun i => .int (-i)) (tC (.int 1)))) (tVar 3))) tNext)
    (tSeq (tIfS (tTest (tOp (uEq g.K) (tVar 7) (tC (.int 3)))) (tRet (tCall (sp_law_woven g) [] E0 (tCons (tVar 2) (tCons (tVar 3) tNil)))) tNext)
    (tSeq (tIfS (tTest (tOp (uEq g.K) (tVar 7) (tC (.int 4)))) (tRet (tOp (uAdd g.K) (tOp (uAdd g.K) (tSl (rSlU g.K) (tVar 5) tNoPart (tPart (tVar 6))) (tOp (rIx g.K) (tVar 2) (tOp uMod (tOp uDiv (tCall (sp_law_mixed g) [] E0 (tCons (tVar 0) (tCons (tC (.int 5)) tNil))) (tC (.int 7))) (tCB (rLen g.K) (tCons (tVar 2) tNil))))) (tSl (rSlU g.K) (tVar 5) (tPart (tOp (uAdd g.K) (tVar 6) (tC (.int 1)))) tNoPart))) tNext)
    (tSeq (tIfS (tTest (tOp (uEq g.K) (tVar 7) (tC (.int 5)))) (tRet (tM1 (rJoin g.K) (tC (.str (ST []))) (tCB (rSortedTx g.K) (tCons (tCall (sp_law_drawn g) [] E0 (tCons (tVar 0) (tCons (tVar 2) (tCons (tVar 3) tNil)))) tNil)))) tNext)
    (tSeq (tIfS (tTest (tOp (uEq g.K) (tVar 7) (tC (.int 6)))) (tRet (tRevU g.K (tM1 (rJoin g.K) (tC (.str (ST []))) (tCB (rSortedTx g.K) (tCons (tCall (sp_law_drawn g) [] E0 (tCons (tVar 0) (tCons (tVar 2) (tCons (tVar 3) tNil)))) tNil))))) tNext)
    (tRet (tCall (sp_law_drawn g) [] E0 (tCons (tVar 0) (tCons (tVar 2) (tCons (tVar 3) tNil)))))))))))))))))
theorem p_law_word (h : sp_law_word g vs H Q E) : t_law_word g (D0 Q) (st0 8 vs) H := by
  obtain ⟨c, k, rfl, k0, k1, q⟩ := h
  show t_law_word g (D0 Q) [some (.int c), some (.int k), none, none, none, none, none, none] H
  unfold t_law_word
  walk_at "y"
  rename_i S H1 hS hS1 hS2 e1 m1 H2 hm1 hm1' e2 m2 H3 hm2 hm2' e3
  have := Int.emod_nonneg (m1 / 7) (show k ≠ 0 by omega)
  have := Int.emod_lt_of_pos (m1 / 7) (show 0 < k by omega)
  generalize hn : 1 + m1 / 7 % k = n at *
  have hmin : ∀ P : Int → Prop, (∀ b, 1 ≤ b → b ≤ n → P b) → P (1 + m2 / 7 % (if 7 < n then 7 else n)) := by
    intro P hP
    have h1 : 0 < (if (7 : Int) < n then 7 else n) := by split <;> omega
    have h2 : (if (7 : Int) < n then 7 else n) ≤ n := by split <;> omega
    have := Int.emod_nonneg (m2 / 7) (show (if (7 : Int) < n then 7 else n) ≠ 0 by omega)
    have := Int.emod_lt_of_pos (m2 / 7) h1
    exact hP _ (by omega) (by omega)
  refine x_modI (by split <;> omega) ?_
  walk_at "y"
  refine hmin (fun z => sp_law_drawn g [.int c, .str (ST S), .int z] H3 _ E0) fun b b0 b1 => ?_
  refine c_law_drawn hS hS1 (by omega) (by omega) (by omega) fun B H4 hB hBl e4 => ?_
  walk_at "y"
  refine x_mulS (by omega) (by omega) (by rw [sizeLine_eq]; exact Nat.le_trans (Nat.mul_le_mul (show B.length ≤ 300 by omega) (show n.toNat ≤ 300 by omega)) (by decide)) ?_
  have hrl : (rep n.toNat B).length ≤ 90000 := by rw [rep_len]; exact Nat.mul_le_mul (show n.toNat ≤ 300 by omega) (show B.length ≤ 300 by omega)
  have hrl2 : n.toNat ≤ (rep n.toNat B).length := by rw [rep_len]; exact Nat.le_mul_of_pos_right _ (by omega)
  have hA : Letters ((rep n.toNat B).take n.toNat) := (hB.rep _).take _
  have hAl : ((rep n.toNat B).take n.toNat).length = n.toNat := by rw [List.length_take]; omega
  walk_at "y"
  generalize (rep n.toNat B).take n.toNat = A at *
  rename_i m3 H5 hm3 hm3' e5 m4 H6 hm4 hm4' e6
  have := Int.emod_nonneg (m3 / 7) (show n ≠ 0 by omega)
  have := Int.emod_lt_of_pos (m3 / 7) (show 0 < n by omega)
  generalize m3 / 7 % n = at_ at *
  have eAll : Ex H H6 := by walk_at "ex"
  have hSn : S ≠ [] := by intro h; rw [h] at hS1; exact absurd hS1 (by decide)
  have hone : ∀ c ∈ S, Letters [c] := fun c hc d hd => by rw [List.mem_singleton.mp hd]; exact hS c hc
  refine x_ifd (fun _ => ?_) fun _ => ?_
  · walk_at "y"
    exact q _ _ hA (by omega) (by omega) eAll
  walk_at "y"
  refine x_ifd (fun _ => ?_) fun _ => ?_
  · walk_at "y"
    show uMul (.str (ST B)) (.int (if n / (B.length : Int) > 1 then n / (B.length : Int) else 1)) H6 _
    have hq1 : (if n / (B.length : Int) > 1 then n / (B.length : Int) else 1) ≤ 300 := by
      have := Int.ediv_le_self (B.length : Int) (show 0 ≤ n by omega)
      split <;> omega
    have hq0 : 1 ≤ (if n / (B.length : Int) > 1 then n / (B.length : Int) else 1) := by
      split <;> omega
    have hq2 : (if n / (B.length : Int) > 1 then n / (B.length : Int) else 1).toNat * B.length ≤ n.toNat := by
      split
      · rw [Nat.le_iff_lt_add_one] 
        have h1 := Int.ediv_mul_le n (show (B.length : Int) ≠ 0 by omega)
        have h2 : (((n / (B.length : Int)).toNat * B.length : Nat) : Int) = n / (B.length : Int) * (B.length : Int) := by
          rw [Int.natCast_mul, Int.toNat_of_nonneg (by omega)]
        omega
      · simp; omega
    generalize (if n / (B.length : Int) > 1 then n / (B.length : Int) else 1) = w at *
    have hw2 : B.length ≤ w.toNat * B.length := Nat.le_mul_of_pos_left _ (by omega)
    refine x_mulS (by omega) (by omega) (by rw [sizeLine_eq, Nat.mul_comm]; omega) ?_
    exact q _ _ (hB.rep _) (by rw [rep_len]; omega) (by rw [rep_len]; omega) eAll
  walk_at "y"
  refine x_ifd (fun _ => ?_) fun _ => ?_
  · walk_at "y"
    refine x_ixSlast (by walk_at "sz") hSn fun c1 hc1 _ => ?_
    walk_at "y"
    refine x_mulS (by omega) (by omega) (by rw [sizeLine_eq]; simp; omega) ?_
    exact q _ _ ((hone _ hc1).rep _) (by rw [rep_len]; simp; omega) (by rw [rep_len]; simp; omega) eAll
  walk_at "y"
  refine x_ifd (fun _ => ?_) fun _ => ?_
  · walk_at "y"
    exact c_law_woven hS hS1 (by omega) (by omega) (by omega) fun m H7 hm hml e7 => q _ _ hm (by omega) (by omega) (Ex.trs eAll e7)
  walk_at "y"
  refine x_ifd (fun _ => ?_) fun _ => ?_
  · walk_at "y"
    rename_i m5 H7 _ _ e7
    refine x_ixSm (by walk_at "sz") (Int.emod_nonneg _ (by omega)) (Int.emod_lt_of_pos _ (by omega)) fun c1 hc1 _ => ?_
    walk_at "y"
    refine q _ _ (((hA.take _).app (hone _ hc1)).app (hA.drop _)) ?_ ?_ (Ex.trs eAll e7)
    · simp only [List.length_append, List.length_take, List.length_drop, List.length_singleton]; omega
    · simp only [List.length_append, List.length_take, List.length_drop, List.length_singleton]; omega
  walk_at "y"
  refine x_ifd (fun _ => ?_) fun _ => ?_
  · walk_at "y"
    refine c_law_drawn hS hS1 (by omega) (by omega) (by omega) fun m H7 hm hml e7 => ?_
    walk_at "y"
    refine x_sortedS (by walk_at "sz") fun ys p' H8 hperm _ hp' e8 hl8 => ?_
    have hf := signs_perm hm hperm
    refine x_join (by walk_at "hp") (by omega) ?_
    exact q _ _ hf.1 (by omega) (by omega) (Ex.trs (Ex.trs eAll e7) e8)
  walk_at "y"
  refine x_ifd (fun _ => ?_) fun _ => ?_
  · walk_at "y"
    refine c_law_drawn hS hS1 (by omega) (by omega) (by omega) fun m H7 hm hml e7 => ?_
    walk_at "y"
    refine x_sortedS (by walk_at "sz") fun ys p' H8 hperm _ hp' e8 hl8 => ?_
    have hf := signs_perm hm hperm
    refine x_join (by walk_at "hp") (by omega) ?_
    refine .inl ⟨_, rfl, by walk_at "sz", ?_⟩
    exact q _ _ hf.1.rev (by rw [List.length_reverse]; omega) (by rw [List.length_reverse]; omega) (Ex.trs (Ex.trs eAll e7) e8)
  walk_at "y"
  exact c_law_drawn hS hS1 (by omega) (by omega) (by omega) fun m H7 hm hml e7 => q _ _ hm (by omega) (by omega) (Ex.trs eAll e7)
end
end RW

/-! P1c: the laws' turnings, no words, marks. -/
namespace RW
open PySem PySem.Spec PyProof.Rows L2
open Evl (Ex ex_l ex_t ex_rd fresh_back)
local macro_rules | `(tactic| walk_at "x") => `(tactic| first
  | ((with_reducible apply x_var); exact rfl)
  | with_reducible refine x_c ?_
  | with_reducible refine x_op ?_
  | with_reducible refine x_un ?_
  | with_reducible refine x_neg ?_
  | with_reducible refine x_addI ?_
  | with_reducible refine x_subI ?_
  | with_reducible refine x_ltI ?_
  | with_reducible refine x_ltS ?_
  | with_reducible refine x_leI ?_
  | with_reducible refine x_leS ?_
  | with_reducible refine x_gtI ?_
  | with_reducible refine x_gtS ?_
  | with_reducible refine x_geI ?_
  | with_reducible refine x_eqI ?_
  | with_reducible refine x_eqS ?_
  | with_reducible refine x_eqB ?_
  | with_reducible refine x_neI ?_
  | with_reducible refine x_neS ?_
  | with_reducible refine x_isN ?_
  | with_reducible refine x_isB ?_
  | with_reducible refine x_isNotN ?_
  | with_reducible refine x_isNotB ?_
  | with_reducible refine x_inS ?_
  | with_reducible refine x_sl ?_
  | with_reducible refine x_part ?_
  | with_reducible refine x_nopart ?_
  | with_reducible refine x_rev ?_
  | with_reducible refine x_nil ?_
  | with_reducible refine x_cons ?_
  | with_reducible refine x_lst0 ?_
  | with_reducible refine x_tup0 ?_
  | with_reducible refine x_call0 ?_
  | with_reducible refine x_callS ?_
  | with_reducible refine x_cb ?_
  | with_reducible refine x_m1 ?_
  | with_reducible refine x_m1s ?_
  | with_reducible refine x_bm ?_
  | with_reducible refine x_bm0 ?_
  | with_reducible refine x_tyS ?_
  | with_reducible refine x_max2 ?_
  | with_reducible refine x_min2 ?_
  | with_reducible refine x_seq ?_
  | with_reducible refine x_asg ?_
  | with_reducible refine x_asgG ?_
  | with_reducible refine x_ret ?_
  | with_reducible refine x_retN ?_
  | with_reducible refine x_if ?_
  | with_reducible refine x_next ?_
  | with_reducible refine x_drop ?_
  | with_reducible refine x_break ?_
  | with_reducible refine x_cont ?_
  | with_reducible refine x_par ?_
  | with_reducible refine x_par2 ?_
  | ((with_reducible apply x_aug); exact rfl)
  | with_reducible refine x_ip ?_
  | with_reducible refine x_test ?_
  | with_reducible refine x_tB ?_
  | with_reducible refine x_bl ?_
  | with_reducible refine x_and ?_
  | with_reducible refine x_or ?_
  | with_reducible refine x_not ?_
  | with_reducible refine x_andV ?_
  | with_reducible refine x_orV ?_
  | with_reducible refine x_notV ?_
  | with_reducible refine x_ifV ?_
  | with_reducible refine x_chain ?_
  | with_reducible refine x_intA ?_
  | with_reducible refine x_strA ?_
  | with_reducible refine x_yes ?_
  | with_reducible refine iteT ?_
  | with_reducible refine iteF ?_
  | with_reducible refine x_forRng1 ?_
  | with_reducible refine x_forRng2 ?_
  | with_reducible refine x_forLst ?_
  | with_reducible refine x_forU ?_
  | with_reducible refine x_lcRng1 ?_
  | with_reducible refine x_lcRng2 ?_
  | with_reducible refine x_lcLst ?_
  | with_reducible refine x_lcU ?_
  | with_reducible refine x_uS ?_
  | with_reducible refine x_gcons ?_
  | with_reducible refine x_gnil ?_
  -- with side conditions
  | ((with_reducible refine x_addS ?hs ?_); (case hs => walk_at "sz"))
  | ((with_reducible refine x_divI ?hs ?ht ?_); (case hs => walk_at "sz"); (case ht => walk_at "sz"))
  | ((with_reducible refine x_modI ?hs ?_); (case hs => walk_at "sz"))
  | ((with_reducible refine x_mulI ?hs ?_); (case hs => walk_at "sz"))
  | ((with_reducible refine x_lenS ?hs ?_); (case hs => walk_at "sz"))
  | ((with_reducible refine x_slSlo ?hs ?_); (case hs => walk_at "sz"))
  | ((with_reducible refine x_slShi ?hs ?_); (case hs => walk_at "sz"))
  | ((with_reducible refine x_slSlohi ?hs ?_); (case hs => walk_at "sz"))
  | ((with_reducible refine x_slShiNeg ?hs ?_); (case hs => walk_at "sz"))
  | ((with_reducible refine x_slSloI ?ht ?hs ?_); (case ht => walk_at "sz"); (case hs => walk_at "sz"))
  | ((with_reducible refine x_slShiI ?ht ?hs ?_); (case ht => walk_at "sz"); (case hs => walk_at "sz"))
  | ((with_reducible refine x_rng1 ?hs ?ht ?_); (case hs => walk_at "sz"); (case ht => walk_at "sz"))
  | ((with_reducible refine x_rng2 ?hs ?_); (case hs => walk_at "sz"))
  | ((with_reducible refine x_newL ?hs ?_); (case hs => walk_at "sz"); intro px Hx npx ex hpx)
  | ((with_reducible refine x_newT ?hs ?_); (case hs => walk_at "sz"); intro px Hx npx ex hpx)
  | ((with_reducible apply x_lenL); (walk_at "hp"))
  | ((with_reducible apply x_refL); (walk_at "hp"))
  | ((with_reducible apply x_uL); (walk_at "hp"))
  | ((with_reducible apply x_tyL); (walk_at "hp"))
  )
local macro_rules | `(tactic| walk_at "xs") => `(tactic| repeat (walk_at "x"))
/- sizes, bounds -/
local macro_rules | `(tactic| walk_at "sz") => `(tactic| first
  | with_reducible assumption
  | (rw [sizeLine_eq]; first | omega | (simp only [List.length_cons, List.length_nil, List.length_append, List.length_map, List.length_reverse, List.length_range, List.length_drop, List.length_take, List.length_dropLast]; omega))
  | omega
  | (unfold CMul; omega)
  | (simp only [List.length_cons, List.length_nil, List.length_append, List.length_map, List.length_reverse, List.length_range, List.length_drop, List.length_take, List.length_dropLast]; omega))
/- what stands in the heap -/
local macro_rules | `(tactic| walk_at "hp") => `(tactic| first
  | assumption
  | ((with_reducible apply SqL.of); walk_at "hp")
  | ((with_reducible apply SqT.of); walk_at "hp")
  | ((with_reducible apply Ex.at_); assumption; walk_at "hp")
  | ((with_reducible apply ex_l); assumption; walk_at "hp")
  | ((with_reducible apply ex_t); assumption; walk_at "hp"))
local macro_rules | `(tactic| walk_at "ex") => `(tactic| first
  | assumption
  | exact Ex.rfl'
  | (refine Ex.trs ?_ (by assumption); walk_at "ex"))
/- an item at a place within: what is left speaks of the item -/
local macro_rules | `(tactic| walk_at "ix") => `(tactic| ((with_reducible apply x_ixLm); (walk_at "hp"); (walk_at "sz"); (walk_at "sz")))
local macro_rules | `(tactic| walk_at "is") => `(tactic| ((with_reducible apply x_ixSm); (walk_at "sz"); (walk_at "sz"); (walk_at "sz")))

local macro_rules | `(tactic| walk_at "c1") => `(tactic| ((with_reducible refine c_law_mixed ?_); intro mx Hx mx0 mx1 ex))
local macro_rules | `(tactic| walk_at "y") => `(tactic| repeat (first | walk_at "x" | walk_at "c1"))
section
variable {g : G} {vs : List V} {H : Hp} {Q : VK} {E : XK}
/-- all turnings of a word -/
def turnsL (l : List Nat) : List (List Nat) := (List.range l.length).map fun k => l.drop k ++ l.take k
theorem Letters.turnsL {l : List Nat} (h : Letters l) : ∀ m ∈ turnsL l, Letters m := fun m hm => by
  unfold RW.turnsL at hm
  obtain ⟨k, _, rfl⟩ := List.mem_map.mp hm
  exact (h.drop k).app (h.take k)
theorem turnsL_len (l : List Nat) : (turnsL l).length = l.length := by unfold turnsL; simp
theorem turnsL_lens {l : List Nat} : ∀ m ∈ turnsL l, m.length = l.length := fun m hm => by
  unfold turnsL at hm
  obtain ⟨k, hk, rfl⟩ := List.mem_map.mp hm
  have := List.mem_range.mp hk
  simp only [List.length_append, List.length_take, List.length_drop]
  omega
/-! ### _law_turnings -/
def sp_law_turnings (g : G) : Sp := fun vs H Q _ => ∃ l, vs = [.str (ST l)] ∧ l.length ≤ 10000 ∧ ∀ p H', H p = none → Ex H H' → H' p = some (.lst (tx (turnsL l))) → Q (.ref p) H'
theorem c_law_turnings {l : List Nat} (h : l.length ≤ 10000) (q : ∀ p H', H p = none → Ex H H' → H' p = some (.lst (tx (turnsL l))) → Q (.ref p) H') : sp_law_turnings g [.str (ST l)] H Q E := ⟨l, rfl, h, q⟩
/-- _law_turnings: slots _law_word_here, _law_k -/
def t_law_turnings (g : G) : TS :=
  tRet (tLc (iRng1 (tCons (tCB (rLen g.K) (tCons (tVar 0) tNil)) tNil)) (gName 1) tYes (tOp (uAdd g.K) (tSl (rSlU g.K) (tVar 0) (tPart (tVar 1)) tNoPart) (tSl (rSlU g.K) (tVar 0) tNoPart (tPart (tVar 1)))) [1])
theorem p_law_turnings (h : sp_law_turnings g vs H Q E) : t_law_turnings g (D0 Q) (st0 2 vs) H := by
  obtain ⟨l, rfl, hl, q⟩ := h
  show t_law_turnings g (D0 Q) [some (.str (ST l)), none] H
  unfold t_law_turnings
  walk_at "y"
  refine x_lcRm (fun k => .str (ST (l.drop k ++ l.take k))) (by omega) (fun _ => rfl) (fun i H' hi e R hR => ?_) fun p H' hp e hl' => ?_
  · walk_at "y"
    simp only [Int.zero_add]
    walk_at "y"
    exact hR _ (by walk_at "ex")
  · refine q p H' hp e ?_
    rw [hl']
    unfold turnsL tx
    rw [List.map_map]
    rfl
/-! ### _law_early -/
/-- a word less than its other turnings -/
def Early (l : List Nat) : Prop := ∀ m ∈ (turnsL l).drop 1, l < m
instance (l : List Nat) : Decidable (Early l) := by unfold Early; infer_instance
def sp_law_early (g : G) : Sp := fun vs H Q _ => ∃ l, vs = [.str (ST l)] ∧ l.length ≤ 10000 ∧ Letters l ∧ ∀ H', Ex H H' → Q (.bl (decide (Early l))) H'
theorem c_law_early {l : List Nat} (h : l.length ≤ 10000) (h2 : Letters l) (q : ∀ H', Ex H H' → Q (.bl (decide (Early l))) H') : sp_law_early g [.str (ST l)] H Q E := ⟨l, rfl, h, h2, q⟩
/-- _law_early: slots _law_word_here, _law_one -/
def t_law_early (g : G) : TS :=
  tRet (tOp (uEq g.K) (tLc (iU g.K (tSl (rSlU g.K) (tCall (sp_law_turnings g) [] E0 (tCons (tVar 0) tNil)) (tPart (tC (.int 1))) tNoPart)) (gName 1) (tTest (tOp uLe (tVar 1) (tVar 0))) (tVar 1) [1]) (tLst tNil))
theorem filt_tx (P : List Nat → Bool) (F : V → Option V) (hF : ∀ l, F (.str (ST l)) = if P l = true then some (.str (ST l)) else none) : ∀ ls : List (List Nat), (tx ls).filterMap F = tx (ls.filter P)
  | [] => rfl
  | l :: ls => by
    show ((V.str (ST l)) :: tx ls).filterMap F = _
    rw [List.filterMap_cons, hF, List.filter_cons, filt_tx P F hF ls]
    by_cases h : P l = true
    · rw [if_pos h, if_pos h]
      rfl
    · rw [if_neg h, if_neg h]
theorem p_law_early (h : sp_law_early g vs H Q E) : t_law_early g (D0 Q) (st0 2 vs) H := by
  obtain ⟨l, rfl, hl, hL, q⟩ := h
  show t_law_early g (D0 Q) [some (.str (ST l)), none] H
  unfold t_law_early
  walk_at "y"
  refine c_law_turnings hl fun p H1 hp e1 hp1 => ?_
  walk_at "y"
  refine x_slLlo (k := 1) (by walk_at "hp") fun p2 H2 hp2 e2 hl2 => ?_
  rw [show (tx (turnsL l)).drop 1 = tx ((turnsL l).drop 1) by unfold tx; rw [List.map_drop]] at hl2
  walk_at "y"
  refine x_lcL (SqL.of hl2) (fun v => match v with | .str z => if (!decide (l < z.cps.toList)) = true then some v else none | _ => none) (by rw [tx_len, List.length_drop, turnsL_len]; omega) (fun _ => rfl) (fun x H' hx e R R0 hR hR0 => ?_) fun p3 H3 hp3 e3 hl3 => ?_
  · obtain ⟨m, hm, rfl⟩ := List.mem_map.mp hx
    walk_at "y"
    refine x_if2 (fun hb => ?_) fun hb => ?_
    · walk_at "y"
      exact hR _ _ (if_pos hb) (by walk_at "ex")
    · exact hR0 (if_neg (by rw [ST_list, hb]; decide)) _ (by walk_at "ex")
  · rw [filt_tx (fun z => !decide (l < z)) _ (fun z => rfl)] at hl3
    walk_at "y"
    have hd : ∀ m ∈ ((turnsL l).drop 1).filter (fun z => !decide (l < z)), Okc m := fun m hm => (hL.turnsL m (List.mem_of_mem_drop (List.mem_filter.mp hm).1)).okc
    refine x_eqTx (ms := []) (by walk_at "hp") (by walk_at "hp") hd (fun _ h => absurd h (by simp)) ?_
    have he : decide (((turnsL l).drop 1).filter (fun z => !decide (l < z)) = []) = decide (Early l) := by
      rw [decide_eq_decide, List.filter_eq_nil_iff]
      unfold Early
      constructor
      · intro h m hm
        have := h m hm
        simpa using this
      · intro h m hm
        have := h m hm
        simpa using this
    rw [he]
    exact q _ (by walk_at "ex")
/-! ### _law_no_word -/
theorem x_dnew (q : ∀ p H', H p = none → Ex H H' → H' p = some (.dK []) → Q (.ref p) H') {σ : L2.St} : tDNewK σ H Q := fun p hp => q p _ hp (Evl.Ex.new hp) upd_same
/-- a word of the document -/
def Word (l : List Nat) : Prop := Letters l ∧ 1 ≤ l.length ∧ l.length ≤ 300
/-- a thing, and whether it is a word -/
def IsW (K : Frag) (H : Hp) (v : V) (b : Bool) : Prop := (∃ l, v = .str (ST l) ∧ l.length ≤ 100000 ∧ (b = true ↔ Word l)) ∨ (∃ T, TyX K H v (.type T) ∧ kitB T "str" = some false ∧ b = false)
theorem tyX_ex {K : Frag} {H H' : Hp} {v : V} {t : Value} (e : Ex H H') (h : TyX K H v t) : TyX K H' v t := by
  cases h with
  | base h =>
    refine .base ?_
    cases h with
    | non => exact .non
    | bl => exact .bl _
    | int => exact .int _
    | str => exact .str _
    | flt => exact .flt _
    | lst h => exact .lst (e _ _ h)
    | frz h => exact .frz (e _ _ h)
    | tup h => exact .tup (e _ _ h)
    | dK h => exact .dK (e _ _ h)
    | dT h => exact .dT (e _ _ h)
    | ins h cl ha hn ht hm => exact .ins (e _ _ h) cl ha hn ht hm
  | byt b => exact .byt b
  | set h => exact .set (e _ _ h)
  | kList h c => exact .kList h c
  | kTuple h c => exact .kTuple h c
  | kDict h c => exact .kDict h c
  | fTuple h => exact .fTuple (e _ _ h)
  | fDict h => exact .fDict (e _ _ h)
theorem IsW.ex {K : Frag} {H H' : Hp} {v : V} {b : Bool} (e : Ex H H') (h : IsW K H v b) : IsW K H' v b := by
  rcases h with h | ⟨T, h1, h2⟩
  · exact .inl h
  · exact .inr ⟨T, tyX_ex e h1, h2⟩
theorem IsW.word {K : Frag} {H : Hp} {l : List Nat} (h : Word l) : IsW K H (.str (ST l)) true := .inl ⟨l, rfl, by have := h.2.2; omega, by simp [h]⟩
def sp_law_no_word (g : G) : Sp := fun vs H Q _ => ∃ m, vs = [.int m] ∧ ∀ v H', IsW g.K H' v false → Ex H H' → Q v H'
theorem c_law_no_word {m : Int} (q : ∀ v H', IsW g.K H' v false → Ex H H' → Q v H') : sp_law_no_word g [.int m] H Q E := ⟨m, rfl, q⟩
/-- _law_no_word: slots _law_mix, _law_some -/
def t_law_no_word (g : G) : TS :=
  tSeq (tAsg (tLst (tCons (tC .non) (tCons (tC (.str (ST []))) (tCons (tC (.int 5)) (tCons (tC (.str (ST [97, 66]))) (tCons (tC (.str (ST [97, 32, 98]))) (tCons (tC (.str (ST [97, 49]))) (tCons (tLst (tCons (tC (.str (ST [97]))) tNil)) (tCons (tTup (tCons (tC (.str (ST [97]))) tNil)) (tCons (tOp uMul (tC (.str (ST [97]))) (tC (.int 301))) (tCons (tC (.bl true)) (tCons (tC (.str (ST [97, 98, 45]))) (tCons (tC (.str (ST [65]))) (tCons tDNewK (tCons (tC (.str (ST [97, 46]))) (tCons (tC (.int 0)) (tCons (tC (.str (ST [10]))) tNil))))))))))))))))) (gName 1))
    (tRet (tOp (rIx g.K) (tVar 1) (tOp uMod (tOp uDiv (tVar 0) (tC (.int 7))) (tC (.int 16)))))
theorem noW {K : Frag} {H : Hp} {l : List Nat} (h : l.length ≤ 100000) (n : ¬ Word l) : IsW K H (.str (ST l)) false := .inl ⟨l, rfl, h, by simp [n]⟩
theorem noWc {l : List Nat} (c : Nat) (h : c ∈ l) (hc : ¬ (97 ≤ c ∧ c ≤ 122)) : ¬ Word l := fun w => hc (w.1 c h)
theorem p_law_no_word (h : sp_law_no_word g vs H Q E) : t_law_no_word g (D0 Q) (st0 2 vs) H := by
  obtain ⟨m, rfl, q⟩ := h
  show t_law_no_word g (D0 Q) [some (.int m), none] H
  unfold t_law_no_word
  walk_at "y"
  refine x_mulS (by decide) (by decide) (by decide) ?_
  walk_at "y"
  refine x_dnew fun pd Hd npd ed hpd => ?_
  walk_at "y"
  refine x_ixLm (by walk_at "hp") ?_ ?_ fun v hv _ => q _ _ ?_ (by walk_at "ex")
  · exact Int.emod_nonneg _ (by decide)
  · exact Int.emod_lt_of_pos _ (by decide)
  simp only [List.mem_cons, List.not_mem_nil, or_false] at hv
  rcases hv with rfl | rfl | rfl | rfl | rfl | rfl | rfl | rfl | rfl | rfl | rfl | rfl | rfl | rfl | rfl | rfl
  · exact .inr ⟨_, .base .non, by decide +kernel, rfl⟩
  · exact noW (by decide) fun w => absurd w.2.1 (by decide)
  · exact .inr ⟨_, .base (.int _), by decide +kernel, rfl⟩
  · exact noW (by decide) (noWc 66 (by decide) (by decide))
  · exact noW (by decide) (noWc 32 (by decide) (by decide))
  · exact noW (by decide) (noWc 49 (by decide) (by decide))
  · exact .inr ⟨_, .base (.lst (by walk_at "hp")), by decide +kernel, rfl⟩
  · exact .inr ⟨_, .base (.tup (by walk_at "hp")), by decide +kernel, rfl⟩
  · exact noW (by rw [rep_len]; decide) fun w => absurd w.2.2 (by rw [rep_len]; decide)
  · exact .inr ⟨_, .base (.bl _), by decide +kernel, rfl⟩
  · exact noW (by decide) (noWc 45 (by decide) (by decide))
  · exact noW (by decide) (noWc 65 (by decide) (by decide))
  · exact .inr ⟨_, .base (.dK (by walk_at "hp")), by decide +kernel, rfl⟩
  · exact noW (by decide) (noWc 46 (by decide) (by decide))
  · exact .inr ⟨_, .base (.int _), by decide +kernel, rfl⟩
  · exact noW (by decide) (noWc 10 (by decide) (by decide))
/-! ### _law_mark -/
/-- what isinstance answers about the errors of the class at D, the i-th of the six -/
structure MarkC (g : G) (D : Addr) (i : Nat) : Prop where
  x : ExcC g.K D
  k0 : PySem.W.kitOne g.K (.ref D) (.ref g.cNoWord) = some (decide (i = 0))
  k1 : PySem.W.kitOne g.K (.ref D) (.ref g.cNoSigns) = some (decide (i = 1))
  k2 : PySem.W.kitOne g.K (.ref D) (.ref g.cNoCount) = some (decide (i = 2))
  k3 : PySem.W.kitOne g.K (.ref D) (.ref g.cTooMany) = some (decide (i = 3))
  k4 : PySem.W.kitOne g.K (.ref D) (.ref g.cNoRing) = some (decide (i = 4))
  k5 : PySem.W.kitOne g.K (.ref D) (.ref g.cTwice) = some (decide (i = 5))
  v : PySem.W.kitOne g.K (.ref D) (.type "ValueError") = some true
theorem x_isX {K : Frag} {a D : Addr} {c : V} {u : Value} {b : Bool} (h : H a = some (ExT (.ref D) a)) (x : ExcC K D) (cv : ClsV c u) (k : PySem.W.kitOne K (.ref D) u = some b) (q : Q (.bl b) H) : rIsU K [.ref a, c] H Q := .inr ⟨a, D, c, u, b, rfl, h, x, cv, k, q⟩
/-- the names of the marks -/
def markN : Nat → List Nat
  | 0 => [119, 111, 114, 100] | 1 => [115, 105, 103, 110, 115] | 2 => [99, 111, 117, 110, 116] | 3 => [109, 97, 110, 121] | 4 => [114, 105, 110, 103] | _ => [116, 119, 105, 99, 101]
def sp_law_mark (g : G) : Sp := fun vs H Q _ => ∃ a D i, vs = [.ref a] ∧ H a = some (ExT (.ref D) a) ∧ i < 6 ∧ MarkC g D i ∧ ∀ H', Ex H H' → Q (.str (ST (markN i))) H'
theorem c_law_mark {a D : Addr} {i : Nat} (h : H a = some (ExT (.ref D) a)) (hi : i < 6) (m : MarkC g D i) (q : ∀ H', Ex H H' → Q (.str (ST (markN i))) H') : sp_law_mark g [.ref a] H Q E := ⟨a, D, i, rfl, h, hi, m, q⟩
/-- _law_mark: slots _law_e, _law_some -/
def t_law_mark (g : G) : TS :=
  tSeq (tAsg (tLst (tCons (tCB (rIsU g.K) (tCons (tVar 0) (tCons (tC (.ref g.cNoWord)) tNil))) (tCons (tCB (rIsU g.K) (tCons (tVar 0) (tCons (tC (.ref g.cNoSigns)) tNil))) (tCons (tCB (rIsU g.K) (tCons (tVar 0) (tCons (tC (.ref g.cNoCount)) tNil))) (tCons (tCB (rIsU g.K) (tCons (tVar 0) (tCons (tC (.ref g.cTooMany)) tNil))) tNil))))) (gName 1))
    (tSeq (tAsg (tOp (uAdd g.K) (tVar 1) (tLst (tCons (tCB (rIsU g.K) (tCons (tVar 0) (tCons (tC (.ref g.cNoRing)) tNil))) (tCons (tCB (rIsU g.K) (tCons (tVar 0) (tCons (tC (.ref g.cTwice)) tNil))) tNil)))) (gName 1))
    (tSeq (tIfS (tOr (tTest (tOp (uNe g.K) (tBM g.K "list" (rCntB g.K) (tVar 1) (tCons (tC (.bl true)) tNil)) (tC (.int 1)))) (tNot (tB (tCB (rIsU g.K) (tCons (tVar 0) (tCons (tC (.ty "ValueError")) tNil)))))) (tRet (tC (.str (ST [115, 101, 118, 101, 114, 97, 108])))) tNext)
    (tRet (tOp (rIx g.K) (tLst (tCons (tC (.str (ST [119, 111, 114, 100]))) (tCons (tC (.str (ST [115, 105, 103, 110, 115]))) (tCons (tC (.str (ST [99, 111, 117, 110, 116]))) (tCons (tC (.str (ST [109, 97, 110, 121]))) (tCons (tC (.str (ST [114, 105, 110, 103]))) (tCons (tC (.str (ST [116, 119, 105, 99, 101]))) tNil))))))) (tBM g.K "list" (rIndex g.K) (tVar 1) (tCons (tC (.bl true)) tNil))))))
theorem x_cntB {K : Frag} {p : Addr} {bs : List Bool} {k : Bool} (h : SqL K H p (bs.map V.bl)) (q : Q (.int (bs.count k : Nat)) H) : rCntB K (.ref p) [.bl k] H Q := ⟨p, bs, k, rfl, rfl, h, q⟩
theorem x_idxB {K : Frag} {p : Addr} {bs : List Bool} {j : Nat} (h : SqL K H p (bs.map V.bl)) (hj : bs[j]? = some true) (hn : ∀ m, m < j → bs[m]? = some false) (q : Q (.int (j : Nat)) H) : rIndex K (.ref p) [.bl true] H Q :=
  ⟨p, bs.map V.bl, .bl true, j, .bl true, rfl, rfl, h, rfl, by rw [List.all_map]; exact List.all_eq_true.mpr fun _ _ => rfl, by rw [List.getElem?_map, hj]; rfl, by decide, fun m z hm hz => by
    rw [List.getElem?_map, hn m hm] at hz
    obtain rfl : V.bl false = z := Option.some.inj hz
    decide, q⟩
theorem p_law_mark (h : sp_law_mark g vs H Q E) : t_law_mark g (D0 Q) (st0 2 vs) H := by
  obtain ⟨a, D, i, rfl, ha, hi, M, q⟩ := h
  show t_law_mark g (D0 Q) [some (.ref a), none] H
  unfold t_law_mark
  walk_at "y"
  refine x_isX (by walk_at "hp") M.x (.own _) M.k0 ?_
  walk_at "y"
  refine x_isX (by walk_at "hp") M.x (.own _) M.k1 ?_
  walk_at "y"
  refine x_isX (by walk_at "hp") M.x (.own _) M.k2 ?_
  walk_at "y"
  refine x_isX (by walk_at "hp") M.x (.own _) M.k3 ?_
  walk_at "y"
  rename_i p1 H1 np1 e1 hp1
  refine x_isX (by walk_at "hp") M.x (.own _) M.k4 ?_
  walk_at "y"
  refine x_isX (by walk_at "hp") M.x (.own _) M.k5 ?_
  walk_at "y"
  rename_i p2 H2 np2 e2 hp2
  refine x_addL (by walk_at "hp") (by walk_at "hp") (by rw [sizeLine_eq]; simp) fun p3 H3 np3 e3 hp3 => ?_
  have hb : SqL g.K H3 p3 ([decide (i = 0), decide (i = 1), decide (i = 2), decide (i = 3), decide (i = 4), decide (i = 5)].map V.bl) := SqL.of hp3
  walk_at "y"
  refine x_cntB hb ?_
  have hc : ([decide (i = 0), decide (i = 1), decide (i = 2), decide (i = 3), decide (i = 4), decide (i = 5)] : List Bool).count true = 1 := by
    rcases (by omega : i = 0 ∨ i = 1 ∨ i = 2 ∨ i = 3 ∨ i = 4 ∨ i = 5) with rfl | rfl | rfl | rfl | rfl | rfl <;> decide
  rw [hc]
  walk_at "y"
  refine x_if0 (by decide) ?_
  walk_at "y"
  refine x_isX (by walk_at "hp") M.x (.ty _) M.v ?_
  walk_at "y"
  refine x_if0 (by decide) ?_
  walk_at "y"
  rename_i p4 H4 np4 e4 hp4
  have e5 : Ex H H4 := by walk_at "ex"
  have h6 := q _ e5
  have hb2 := ex_l e4 hb
  refine x_idxB (j := i) hb2 ?_ ?_ ?_
  · rcases (by omega : i = 0 ∨ i = 1 ∨ i = 2 ∨ i = 3 ∨ i = 4 ∨ i = 5) with rfl | rfl | rfl | rfl | rfl | rfl <;> decide
  · rcases (by omega : i = 0 ∨ i = 1 ∨ i = 2 ∨ i = 3 ∨ i = 4 ∨ i = 5) with rfl | rfl | rfl | rfl | rfl | rfl <;> decide
  refine x_ixL (SqL.of hp4) (v := .str (ST (markN i))) ?_ h6
  rcases (by omega : i = 0 ∨ i = 1 ∨ i = 2 ∨ i = 3 ∨ i = 4 ∨ i = 5) with rfl | rfl | rfl | rfl | rfl | rfl <;> rfl
end
end RW

/-! P2: the program's words. -/
namespace RW
open PySem PySem.Spec PyProof.Rows L2
open Evl (Ex ex_l ex_t ex_rd fresh_back)
local macro_rules | `(tactic| walk_at "x") => `(tactic| first
  | ((with_reducible apply x_var); exact rfl)
  | with_reducible refine x_c ?_
  | with_reducible refine x_op ?_
  | with_reducible refine x_un ?_
  | with_reducible refine x_neg ?_
  | with_reducible refine x_addI ?_
  | with_reducible refine x_subI ?_
  | with_reducible refine x_ltI ?_
  | with_reducible refine x_ltS ?_
  | with_reducible refine x_leI ?_
  | with_reducible refine x_leS ?_
  | with_reducible refine x_gtI ?_
  | with_reducible refine x_gtS ?_
  | with_reducible refine x_geI ?_
  | with_reducible refine x_eqI ?_
  | with_reducible refine x_eqS ?_
  | with_reducible refine x_eqB ?_
  | with_reducible refine x_neI ?_
  | with_reducible refine x_neS ?_
  | with_reducible refine x_isN ?_
  | with_reducible refine x_isB ?_
  | with_reducible refine x_isNotN ?_
  | with_reducible refine x_isNotB ?_
  | with_reducible refine x_inS ?_
  | with_reducible refine x_sl ?_
  | with_reducible refine x_part ?_
  | with_reducible refine x_nopart ?_
  | with_reducible refine x_rev ?_
  | with_reducible refine x_nil ?_
  | with_reducible refine x_cons ?_
  | with_reducible refine x_lst0 ?_
  | with_reducible refine x_tup0 ?_
  | with_reducible refine x_call0 ?_
  | with_reducible refine x_callS ?_
  | with_reducible refine x_cb ?_
  | with_reducible refine x_m1 ?_
  | with_reducible refine x_m1s ?_
  | with_reducible refine x_bm ?_
  | with_reducible refine x_bm0 ?_
  | with_reducible refine x_tyS ?_
  | with_reducible refine x_max2 ?_
  | with_reducible refine x_min2 ?_
  | with_reducible refine x_seq ?_
  | with_reducible refine x_asg ?_
  | with_reducible refine x_asgG ?_
  | with_reducible refine x_ret ?_
  | with_reducible refine x_retN ?_
  | with_reducible refine x_if ?_
  | with_reducible refine x_next ?_
  | with_reducible refine x_drop ?_
  | with_reducible refine x_break ?_
  | with_reducible refine x_cont ?_
  | with_reducible refine x_par ?_
  | with_reducible refine x_par2 ?_
  | ((with_reducible apply x_aug); exact rfl)
  | with_reducible refine x_ip ?_
  | with_reducible refine x_test ?_
  | with_reducible refine x_tB ?_
  | with_reducible refine x_bl ?_
  | with_reducible refine x_and ?_
  | with_reducible refine x_or ?_
  | with_reducible refine x_not ?_
  | with_reducible refine x_andV ?_
  | with_reducible refine x_orV ?_
  | with_reducible refine x_notV ?_
  | with_reducible refine x_ifV ?_
  | with_reducible refine x_chain ?_
  | with_reducible refine x_intA ?_
  | with_reducible refine x_strA ?_
  | with_reducible refine x_yes ?_
  | with_reducible refine iteT ?_
  | with_reducible refine iteF ?_
  | with_reducible refine x_forRng1 ?_
  | with_reducible refine x_forRng2 ?_
  | with_reducible refine x_forLst ?_
  | with_reducible refine x_forU ?_
  | with_reducible refine x_lcRng1 ?_
  | with_reducible refine x_lcRng2 ?_
  | with_reducible refine x_lcLst ?_
  | with_reducible refine x_lcU ?_
  | with_reducible refine x_uS ?_
  | with_reducible refine x_gcons ?_
  | with_reducible refine x_gnil ?_
  -- with side conditions
  | ((with_reducible refine x_addS ?hs ?_); (case hs => walk_at "sz"))
  | ((with_reducible refine x_divI ?hs ?ht ?_); (case hs => walk_at "sz"); (case ht => walk_at "sz"))
  | ((with_reducible refine x_modI ?hs ?_); (case hs => walk_at "sz"))
  | ((with_reducible refine x_mulI ?hs ?_); (case hs => walk_at "sz"))
  | ((with_reducible refine x_lenS ?hs ?_); (case hs => walk_at "sz"))
  | ((with_reducible refine x_slSlo ?hs ?_); (case hs => walk_at "sz"))
  | ((with_reducible refine x_slShi ?hs ?_); (case hs => walk_at "sz"))
  | ((with_reducible refine x_slSlohi ?hs ?_); (case hs => walk_at "sz"))
  | ((with_reducible refine x_slShiNeg ?hs ?_); (case hs => walk_at "sz"))
  | ((with_reducible refine x_slSloI ?ht ?hs ?_); (case ht => walk_at "sz"); (case hs => walk_at "sz"))
  | ((with_reducible refine x_slShiI ?ht ?hs ?_); (case ht => walk_at "sz"); (case hs => walk_at "sz"))
  | ((with_reducible refine x_rng1 ?hs ?ht ?_); (case hs => walk_at "sz"); (case ht => walk_at "sz"))
  | ((with_reducible refine x_rng2 ?hs ?_); (case hs => walk_at "sz"))
  | ((with_reducible refine x_newL ?hs ?_); (case hs => walk_at "sz"); intro px Hx npx ex hpx)
  | ((with_reducible refine x_newT ?hs ?_); (case hs => walk_at "sz"); intro px Hx npx ex hpx)
  | ((with_reducible apply x_lenL); (walk_at "hp"))
  | ((with_reducible apply x_refL); (walk_at "hp"))
  | ((with_reducible apply x_uL); (walk_at "hp"))
  | ((with_reducible apply x_tyL); (walk_at "hp"))
  )
local macro_rules | `(tactic| walk_at "xs") => `(tactic| repeat (walk_at "x"))
/- sizes, bounds -/
local macro_rules | `(tactic| walk_at "sz") => `(tactic| first
  | with_reducible assumption
  | (rw [sizeLine_eq]; first | omega | (simp only [List.length_cons, List.length_nil, List.length_append, List.length_map, List.length_reverse, List.length_range, List.length_drop, List.length_take, List.length_dropLast]; omega))
  | omega
  | (unfold CMul; omega)
  | (simp only [List.length_cons, List.length_nil, List.length_append, List.length_map, List.length_reverse, List.length_range, List.length_drop, List.length_take, List.length_dropLast]; omega))
/- what stands in the heap -/
local macro_rules | `(tactic| walk_at "hp") => `(tactic| first
  | assumption
  | ((with_reducible apply SqL.of); walk_at "hp")
  | ((with_reducible apply SqT.of); walk_at "hp")
  | ((with_reducible apply Ex.at_); assumption; walk_at "hp")
  | ((with_reducible apply ex_l); assumption; walk_at "hp")
  | ((with_reducible apply ex_t); assumption; walk_at "hp"))
local macro_rules | `(tactic| walk_at "ex") => `(tactic| first
  | assumption
  | exact Ex.rfl'
  | (refine Ex.trs ?_ (by assumption); walk_at "ex"))
/- an item at a place within: what is left speaks of the item -/
local macro_rules | `(tactic| walk_at "ix") => `(tactic| ((with_reducible apply x_ixLm); (walk_at "hp"); (walk_at "sz"); (walk_at "sz")))
local macro_rules | `(tactic| walk_at "is") => `(tactic| ((with_reducible apply x_ixSm); (walk_at "sz"); (walk_at "sz"); (walk_at "sz")))

local macro_rules | `(tactic| walk_at "y") => `(tactic| repeat (walk_at "x"))
section
variable {g : G} {vs : List V} {H : Hp} {Q : VK} {E : XK}
/-! ### is_word -/
def sp_is_word (g : G) : Sp := fun vs H Q _ => ∃ v b, vs = [v] ∧ IsW g.K H v b ∧ ∀ H', Ex H H' → Q (.bl b) H'
theorem c_is_word {v : V} {b : Bool} (h : IsW g.K H v b) (q : ∀ H', Ex H H' → Q (.bl b) H') : sp_is_word g [v] H Q E := ⟨v, b, rfl, h, q⟩
/-- is_word: slots thing, sign -/
def t_is_word (g : G) : TS :=
  tSeq (tIfS (tOr (tNot (tB (tCB (rIsU g.K) (tCons (tVar 0) (tCons (tC (.ty "str")) tNil))))) (tNot (tTest (tChain uLe uLe (tC (.int 1)) (tCB (rLen g.K) (tCons (tVar 0) tNil)) (tC (.int 300)))))) (tRet (tC (.bl false))) tNext)
    (tRet (tCB (rAll g.K) (tCons (tLc (iU g.K (tVar 0)) (gName 1) tYes (tOp (uIn g.K) (tVar 1) (tC (.str (ST [97, 98, 99, 100, 101, 102, 103, 104, 105, 106, 107, 108, 109, 110, 111, 112, 113, 114, 115, 116, 117, 118, 119, 120, 121, 122])))) [1]) tNil)))
theorem abc_mem (c : Nat) : c ∈ [97, 98, 99, 100, 101, 102, 103, 104, 105, 106, 107, 108, 109, 110, 111, 112, 113, 114, 115, 116, 117, 118, 119, 120, 121, 122] ↔ Letter c := by
  unfold Letter
  simp only [List.mem_cons, List.not_mem_nil, or_false]
  omega
theorem x_isT {K : Frag} {v : V} {T S : String} {b : Bool} (h : TyX K H v (.type T)) (hk : kitB T S = some b) (q : Q (.bl b) H) : rIsU K [v, .ty S] H Q := .inl ⟨v, .ty S, _, _, b, rfl, .ty S, h, kit_ty hk, q⟩
theorem p_is_word (h : sp_is_word g vs H Q E) : t_is_word g (D0 Q) (st0 2 vs) H := by
  obtain ⟨v, b, rfl, hw, q⟩ := h
  show t_is_word g (D0 Q) [some v, none] H
  unfold t_is_word
  walk_at "y"
  rcases hw with ⟨l, rfl, hl, hb⟩ | ⟨T, ht, hk, rfl⟩
  · refine x_isT (.base (.str _)) (by decide +kernel : kitB "str" "str" = some true) ?_
    walk_at "y"
    refine x_if0 (by decide) ?_
    walk_at "y"
    have hb' : ∀ c, decide (1 ≤ (l.length : Int)) = c → Q (.bl b) H → True := fun _ _ _ => trivial
    refine x_ifd (fun h1 => ?_) fun h1 => ?_
    · walk_at "y"
      by_cases h2 : (l.length : Int) ≤ 300
      · rw [decide_eq_true h2]
        refine x_if0 (by decide) ?_
        walk_at "y"
        refine x_lcSm (fun c => .bl (decide (c ∈ [97, 98, 99, 100, 101, 102, 103, 104, 105, 106, 107, 108, 109, 110, 111, 112, 113, 114, 115, 116, 117, 118, 119, 120, 121, 122]))) (by omega) (fun _ => rfl) (fun c H' hc e R hR => ?_) fun p H' hp e hl' => ?_
        · walk_at "y"
          exact hR _ (by walk_at "ex")
        · walk_at "y"
          refine x_all (bs := l.map fun c => decide (c ∈ [97, 98, 99, 100, 101, 102, 103, 104, 105, 106, 107, 108, 109, 110, 111, 112, 113, 114, 115, 116, 117, 118, 119, 120, 121, 122])) (SqL.of (by rw [hl', List.map_map]; rfl)) ?_
          have hq : (l.map fun c => decide (c ∈ [97, 98, 99, 100, 101, 102, 103, 104, 105, 106, 107, 108, 109, 110, 111, 112, 113, 114, 115, 116, 117, 118, 119, 120, 121, 122])).all id = b := by
            rw [Bool.eq_iff_iff, hb, List.all_eq_true]
            constructor
            · intro h
              refine ⟨fun c hc => ?_, by omega, by omega⟩
              have := h _ (List.mem_map_of_mem hc)
              exact (abc_mem c).mp (of_decide_eq_true this)
            · intro h x hx
              obtain ⟨c, hc, rfl⟩ := List.mem_map.mp hx
              exact decide_eq_true ((abc_mem c).mpr (h.1 c hc))
          rw [hq]
          exact q _ e
      · rw [decide_eq_false h2]
        refine x_it (by decide) ?_
        walk_at "y"
        have : b = false := by
          cases b with
          | false => rfl
          | true => have := (hb.mp rfl).2.2; omega
        rw [this] at q
        exact q _ Ex.rfl'
    · walk_at "y"
      have : b = false := by
        cases b with
        | false => rfl
        | true => have := (hb.mp rfl).2.1; omega
      rw [this] at q
      exact q _ Ex.rfl'
  · refine x_isT ht hk ?_
    walk_at "y"
    refine x_it (by decide) ?_
    walk_at "y"
    exact q _ Ex.rfl'
/-! ### need_word -/
def sp_need_word (g : G) : Sp := fun vs H Q E => ∃ v b, vs = [v] ∧ IsW g.K H v b ∧ (b = true → ∀ H', Ex H H' → Q .non H') ∧ (b = false → ∀ H', Ex H H' → E (.ref g.cNoWord) none H')
theorem c_need_word {l : List Nat} (h : Word l) (q : ∀ H', Ex H H' → Q .non H') : sp_need_word g [.str (ST l)] H Q E := ⟨_, true, rfl, IsW.word h, fun _ => q, fun h => absurd h (by decide)⟩
theorem c_need_wordN {v : V} (h : IsW g.K H v false) (q : ∀ H', Ex H H' → E (.ref g.cNoWord) none H') : sp_need_word g [v] H Q E := ⟨_, false, rfl, h, fun h => absurd h (by decide), fun _ => q⟩
/-- need_word: slots thing -/
def t_need_word (g : G) (E : XK) : TS :=
  tIfS (tNot (tB (tCall (sp_is_word g) [] E0 (tCons (tVar 0) tNil)))) (tRaise g.cNoWord E) tNext
theorem x_raise {C : Addr} {σ : L2.St} {D : Ends} (q : E (.ref C) none H) : tRaise C E D σ H := q
theorem p_need_word (h : sp_need_word g vs H Q E) : t_need_word g E (D0 Q) (st0 1 vs) H := by
  obtain ⟨v, b, rfl, hw, q, qn⟩ := h
  show t_need_word g E (D0 Q) [some v] H
  unfold t_need_word
  walk_at "y"
  refine c_is_word hw fun H' e => ?_
  walk_at "y"
  cases b with
  | true =>
    refine x_if0 (by decide) ?_
    walk_at "y"
    exact q rfl _ e
  | false =>
    refine x_it (by decide) ?_
    exact x_raise (qn rfl _ e)
/-! ### from_place -/
/-- a word turned -/
def turnL (l : List Nat) (k : Nat) : List Nat := l.drop k ++ l.take k
def sp_from_place (g : G) : Sp := fun vs H Q _ => ∃ l k, vs = [.str (ST l), .int k] ∧ l.length ≤ 100000 ∧ 0 ≤ k ∧ Q (.str (ST (turnL l k.toNat))) H
theorem c_from_place {l : List Nat} {k : Int} (h : l.length ≤ 100000) (h0 : 0 ≤ k) (q : Q (.str (ST (turnL l k.toNat))) H) : sp_from_place g [.str (ST l), .int k] H Q E := ⟨l, k, rfl, h, h0, q⟩
/-- from_place: slots word, place -/
def t_from_place (g : G) : TS :=
  tRet (tOp (uAdd g.K) (tSl (rSlU g.K) (tVar 0) (tPart (tVar 1)) tNoPart) (tSl (rSlU g.K) (tVar 0) tNoPart (tPart (tVar 1))))
theorem p_from_place (h : sp_from_place g vs H Q E) : t_from_place g (D0 Q) (st0 2 vs) H := by
  obtain ⟨l, k, rfl, hl, h0, q⟩ := h
  show t_from_place g (D0 Q) [some (.str (ST l)), some (.int k)] H
  unfold t_from_place
  walk_at "y"
  exact q
/-! ### turned -/
def sp_turned (g : G) : Sp := fun vs H Q E => (∃ l k, vs = [.str (ST l), .int k] ∧ Word l ∧ ∀ H', Ex H H' → Q (.str (ST (turnL l (k % (l.length : Int)).toNat))) H') ∨
  (∃ v w, vs = [v, w] ∧ IsW g.K H v false ∧ ∀ H', Ex H H' → E (.ref g.cNoWord) none H')
theorem c_turned {l : List Nat} {k : Int} (h : Word l) (q : ∀ H', Ex H H' → Q (.str (ST (turnL l (k % (l.length : Int)).toNat))) H') : sp_turned g [.str (ST l), .int k] H Q E := .inl ⟨l, k, rfl, h, q⟩
theorem c_turnedN {v w : V} (h : IsW g.K H v false) (q : ∀ H', Ex H H' → E (.ref g.cNoWord) none H') : sp_turned g [v, w] H Q E := .inr ⟨v, w, rfl, h, q⟩
/-- turned: slots word, steps -/
def t_turned (g : G) (E : XK) : TS :=
  tSeq (tDrop (tCall (sp_need_word g) [] E (tCons (tVar 0) tNil)))
    (tRet (tCall (sp_from_place g) [] E0 (tCons (tVar 0) (tCons (tOp uMod (tVar 1) (tCB (rLen g.K) (tCons (tVar 0) tNil))) tNil))))
theorem p_turned (h : sp_turned g vs H Q E) : t_turned g E (D0 Q) (st0 2 vs) H := by
  rcases h with ⟨l, k, rfl, hw, q⟩ | ⟨v, w, rfl, hw, q⟩
  · show t_turned g E (D0 Q) [some (.str (ST l)), some (.int k)] H
    unfold t_turned
    walk_at "y"
    refine c_need_word hw fun H' e => ?_
    have := hw.2
    walk_at "y"
    exact c_from_place (by omega) (Int.emod_nonneg _ (by omega)) (q _ e)
  · show t_turned g E (D0 Q) [some v, some w] H
    unfold t_turned
    walk_at "y"
    exact c_need_wordN hw q
/-! ### turnings -/
def sp_turnings (g : G) : Sp := fun vs H Q E => (∃ l, vs = [.str (ST l)] ∧ Word l ∧ ∀ p H', H p = none → Ex H H' → H' p = some (.lst (tx (turnsL l))) → Q (.ref p) H') ∨
  (∃ v, vs = [v] ∧ IsW g.K H v false ∧ ∀ H', Ex H H' → E (.ref g.cNoWord) none H')
theorem c_turnings {l : List Nat} (h : Word l) (q : ∀ p H', H p = none → Ex H H' → H' p = some (.lst (tx (turnsL l))) → Q (.ref p) H') : sp_turnings g [.str (ST l)] H Q E := .inl ⟨l, rfl, h, q⟩
theorem c_turningsN {v : V} (h : IsW g.K H v false) (q : ∀ H', Ex H H' → E (.ref g.cNoWord) none H') : sp_turnings g [v] H Q E := .inr ⟨v, rfl, h, q⟩
/-- turnings: slots word, place -/
def t_turnings (g : G) (E : XK) : TS :=
  tSeq (tDrop (tCall (sp_need_word g) [] E (tCons (tVar 0) tNil)))
    (tRet (tLc (iRng1 (tCons (tCB (rLen g.K) (tCons (tVar 0) tNil)) tNil)) (gName 1) tYes (tCall (sp_from_place g) [] E0 (tCons (tVar 0) (tCons (tVar 1) tNil))) [1]))
theorem p_turnings (h : sp_turnings g vs H Q E) : t_turnings g E (D0 Q) (st0 2 vs) H := by
  rcases h with ⟨l, rfl, hw, q⟩ | ⟨v, rfl, hw, q⟩
  · show t_turnings g E (D0 Q) [some (.str (ST l)), none] H
    unfold t_turnings
    walk_at "y"
    refine c_need_word hw fun H' e => ?_
    have := hw.2
    walk_at "y"
    refine x_lcRm (fun k => .str (ST (turnL l k))) (by omega) (fun _ => rfl) (fun i H' hi e R hR => ?_) fun p H' hp e2 hl' => ?_
    · walk_at "y"
      simp only [Int.zero_add]
      exact c_from_place (by omega) (by omega) (hR _ (by walk_at "ex"))
    · refine q p H' ?_ (Ex.trs e e2) ?_
      · exact fresh_back e hp
      · rw [hl']
        unfold turnsL tx turnL
        rw [List.map_map]
        rfl
  · show t_turnings g E (D0 Q) [some v, none] H
    unfold t_turnings
    walk_at "y"
    exact c_need_wordN hw q
/-! ### shared by the laws -/
theorem kit_cls {K : Frag} {t : Value} {C : Addr} {b : Bool} (hd : PySem.W.hasDictIn K C = true) (ht : PySem.W.typeIn K (.ref C) = some (.type "type")) (hs : PySem.W.subIn K t (.ref C) = some b) : PySem.W.kitCls K t (.ref C) = some b := by
  obtain ⟨cd, hc, _⟩ := PySem.W.any_some hd
  have e2 : ((PySem.W.clsIn K C).isSome && PySem.W.typeIn K (.ref C) == some (.type "type")) = true := by rw [hc, ht] <;> rfl
  show (if ((PySem.W.clsIn K C).isSome && PySem.W.typeIn K (.ref C) == some (.type "type")) = true then PySem.W.subIn K t (.ref C) else none) = some b
  rw [if_pos e2]
  exact hs
theorem kit_own {K : Frag} {C : Addr} (hd : PySem.W.hasDictIn K C = true) (ht : PySem.W.typeIn K (.ref C) = some (.type "type")) (hs : PySem.W.subIn K (.ref C) (.ref C) = some true) : PySem.W.kitOne K (.ref C) (.ref C) = some true := by
  unfold PySem.W.kitOne
  split
  · rfl
  · exact kit_cls hd ht hs
theorem kit_not {K : Frag} {C D : Addr} (hd : PySem.W.hasDictIn K C = true) (ht : PySem.W.typeIn K (.ref C) = some (.type "type")) (hs : PySem.W.subIn K (.ref D) (.ref C) = some false) (h2 : PySem.W.subIn K (.ref D) (.ref D) = some true) : PySem.W.kitOne K (.ref D) (.ref C) = some false := by
  unfold PySem.W.kitOne
  split
  · rename_i h
    have e : (Value.ref D) = .ref C := eq_of_beq h
    rw [← e, h2] at hs
    exact absurd hs (by decide)
  · exact kit_cls hd ht hs
theorem kit_val {K : Frag} {D : Addr} (hs : PySem.W.subIn K (.ref D) (.type "ValueError") = some true) : PySem.W.kitOne K (.ref D) (.type "ValueError") = some true := by
  unfold PySem.W.kitOne
  split
  · rfl
  · show (if PySem.W.kitMeta "ValueError" = true then PySem.W.subIn K (.ref D) (.type "ValueError") else none) = some true
    rw [if_pos (by decide +kernel)]
    exact hs
/-- an error of the class at D, the i-th of the six: what except and isinstance answer -/
structure ErrOk (g : G) (D : Addr) (i : Nat) : Prop where
  m : MarkC g D i
  e : PySem.W.exmOne g.K (.ref D) (.ref g.cWordError) = some true
theorem x_caught {K : Frag} {C D : Addr} {i : Nat} {ts : Addr → Value → Option Addr → TS} {Wout : WX} {De : Ends} {σ : L2.St} (h : PySem.W.exmOne K (.ref D) (.ref C) = some true)
    (q : ∀ a, H a = none → ts a (.ref D) none { nx := fun σ' H' => H' a = none → De.nx (σ'.set i none) (upd H' a (ExT (.ref D) a)), rt := De.rt, bk := fun σ' H' => De.bk (σ'.set i none) H', ct := fun σ' H' => De.ct (σ'.set i none) H' } (σ.set i (some (.ref a))) H) :
    WE (wAsE K (.ref C) i ts Wout De) σ (.ref D) none H :=
  ⟨true, h, fun _ => ⟨rfl, q⟩, fun h => absurd h (by decide)⟩
/-- the error is kept: what stands behind the try -/
theorem x_kept {K : Frag} {C D : Addr} {i j : Nat} {Wout : WX} {De : Ends} {σ : L2.St} (h : PySem.W.exmOne K (.ref D) (.ref C) = some true) (hi : i < σ.length)
    (q : ∀ a H', Ex H H' → H' a = some (ExT (.ref D) a) → De.nx (((σ.set i (some (.ref a))).set j (some (.ref a))).set i none) H') :
    WE (wAsE K (.ref C) i (fun _ _ _ => tAsg (tVar i) (gName j)) Wout De) σ (.ref D) none H := by
  refine x_caught h fun a ha => ?_
  refine ⟨.ref a, ?_, fun _ => q a _ (Evl.Ex.new ha) upd_same⟩
  rw [List.getElem?_set_self hi]
/-- an if whose two ways go on alike: J tells what both leave -/
theorem x_ifK {b : Bool} {tu tw : TS} {nx bk ct : L2.St → Hp → Prop} {rt : VK} {σ : L2.St} (J : L2.St → Hp → Prop) (hJ : ∀ σ' H', J σ' H' → nx σ' H')
    (h1 : ∀ N : L2.St → Hp → Prop, (∀ σ' H', J σ' H' → N σ' H') → b = true → tu ⟨N, rt, bk, ct⟩ σ H) (h2 : ∀ N : L2.St → Hp → Prop, (∀ σ' H', J σ' H' → N σ' H') → b = false → tw ⟨N, rt, bk, ct⟩ σ H) :
    if b = true then tu ⟨nx, rt, bk, ct⟩ σ H else tw ⟨nx, rt, bk, ct⟩ σ H := x_if2 (h1 nx hJ) (h2 nx hJ)
theorem x_append {l : Addr} {xs : List V} {y : V} (h : H l = some (.lst xs)) (hz : xs.length < sizeLine) (q : Q .non (upd H l (.lst (xs ++ [y])))) : rAppend (.ref l) [y] H Q := ⟨l, xs, y, rfl, rfl, h, hz, q⟩
/-- False answers are never reached -/
theorem x_no {A B : Prop} {b : Bool} (h : b = false) (q : B) : if b = true then A else B := x_if0 h q
theorem turnL_all {l : List Nat} (h : Word l) : ∀ m ∈ turnsL l, Okc m := fun m hm => (h.1.turnsL m hm).okc
/-- what a law's told error comes to -/
theorem x_told {a D : Addr} {i j : Nat} {N : List Nat} {σ : L2.St} {nx bk ct : L2.St → Hp → Prop} {rt : VK} (hσ : σ[j]? = some (some (.ref a))) (ha : H a = some (ExT (.ref D) a)) (m : MarkC g D i) (hi : i < 6) (hN : markN i = N) (q : ∀ H', Ex H H' → rt (.bl true) H') :
    tRet (tAndV (tOp uIsNot (tVar j) (tC .non)) (tOp (uEq g.K) (tCall (sp_law_mark g) [] E0 (tCons (tVar j) tNil)) (tC (.str (ST N))))) ⟨nx, rt, bk, ct⟩ σ H := by
  subst hN
  refine x_ret (x_andV (x_op (x_var hσ (x_c (x_isNotN ⟨_, rfl, x_it rfl ?_⟩)))))
  refine x_op (x_call0 (x_cons (x_var hσ (x_nil (c_law_mark ha hi m fun H' e => x_c (x_eqS ?_))))))
  rw [decide_eq_true rfl]
  exact q _ e
theorem x_idxTx {K : Frag} {p : Addr} {ls : List (List Nat)} {m : List Nat} (h : SqL K H p (tx ls)) (hm : m ∈ ls) (q : ∀ j : Nat, ls[j]? = some m → (∀ i, i < j → ls[i]? ≠ some m) → Q (.int (j : Nat)) H) : rIndex K (.ref p) [.str (ST m)] H Q := by
  have ev : ∀ a b : List Nat, eqV (.str (ST a)) (.str (ST b)) = decide (a = b) := fun a b => by
    show (ST a == ST b) = _
    rw [Bool.beq_eq_decide_eq]
    by_cases h : a = b
    · subst h
      rw [decide_eq_true rfl, decide_eq_true rfl]
    · rw [decide_eq_false h, decide_eq_false fun q => h (ST_inj.mp q)]
  obtain ⟨j, hj, hn⟩ : ∃ j : Nat, ls[j]? = some m ∧ ∀ i, i < j → ls[i]? ≠ some m := by
    clear q h
    induction ls with
    | nil => exact absurd hm (by simp)
    | cons x r ih =>
      by_cases e : x = m
      · subst e
        exact ⟨0, rfl, fun i h => absurd h (by omega)⟩
      · obtain ⟨j, h1, h2⟩ := ih (by rcases List.mem_cons.mp hm with h | h
                                     · exact absurd h.symm e
                                     · exact h)
        refine ⟨j + 1, by simpa using h1, fun i hi => ?_⟩
        cases i with
        | zero => simpa using e
        | succ i => simpa using h2 i (by omega)
  refine ⟨p, tx ls, .str (ST m), j, .str (ST m), rfl, rfl, h, rfl, flat_tx ls, ?_, by rw [ev]; exact decide_eq_true rfl, fun i z hi hz => ?_, q j hj hn⟩
  · unfold tx
    rw [List.getElem?_map, hj]
    rfl
  · unfold tx at hz
    rw [List.getElem?_map] at hz
    cases h3 : ls[i]? with
    | none => rw [h3] at hz; cases hz
    | some w =>
      rw [h3] at hz
      obtain rfl : V.str (ST w) = z := Option.some.inj hz
      rw [ev]
      exact decide_eq_false fun e => hn i hi (by rw [h3, e])
theorem turnsL_get {l : List Nat} {p : Nat} (h : p < l.length) : (turnsL l)[p]? = some (turnL l p) := by
  unfold turnsL turnL
  rw [List.getElem?_map, List.getElem?_range h]
  rfl
theorem turnsL_ex {l m : List Nat} {p : Nat} (h : (turnsL l)[p]? = some m) : p < l.length ∧ m = turnL l p := by
  have h1 : p < (turnsL l).length := (List.getElem?_eq_some_iff.mp h).1
  rw [turnsL_len] at h1
  rw [turnsL_get h1] at h
  exact ⟨h1, (Option.some.inj h).symm⟩
theorem turnsL_mem {l m : List Nat} : m ∈ turnsL l ↔ ∃ p, p < l.length ∧ m = turnL l p := by
  unfold turnsL turnL
  simp only [List.mem_map, List.mem_range]
  constructor
  · rintro ⟨p, h, rfl⟩
    exact ⟨p, h, rfl⟩
  · rintro ⟨p, h, rfl⟩
    exact ⟨p, h, rfl⟩
theorem c_law_cell_at {a : Addr} {ns : List Int} {k : Int} (h : SqL g.K H a (ixs ns)) (h0 : 0 ≤ k) (h1 : k ≤ 1000) (hn : ns.length ≤ 100) (q : ∀ n H', Ex H H' → Q (.int n) H') : sp_law_cell_at g [.ref a, .int k] H Q E := ⟨a, ns, k, rfl, h, h0, h1, hn, q⟩
end
end RW

/-! M1: words as functions of their places; the order; turnings; the least place. -/
namespace RW
/-- f less than g within the first n places -/
def FLt (f g : Nat → Nat) (n : Nat) : Prop := ∃ t, t < n ∧ (∀ s, s < t → f s = g s) ∧ f t < g t
/-- a list told by places -/
def fl (f : Nat → Nat) (n : Nat) : List Nat := (List.range n).map f
theorem fl_len (f : Nat → Nat) (n : Nat) : (fl f n).length = n := by unfold fl; simp
theorem fl_get {f : Nat → Nat} {n t : Nat} (h : t < (fl f n).length) : (fl f n)[t] = f t := by
  have e : (fl f n)[t]? = some (f t) := by
    rw [fl_len] at h
    simp [fl, h]
  exact (List.getElem?_eq_some_iff.mp e).2
theorem fl_lt {f g : Nat → Nat} {n : Nat} : fl f n < fl g n ↔ FLt f g n := by
  rw [List.lt_iff_exists]
  constructor
  · rintro (⟨_, h⟩ | ⟨t, h1, h2, h3, h4⟩)
    · rw [fl_len, fl_len] at h
      omega
    · have ht : t < n := by rw [fl_len] at h1; exact h1
      refine ⟨t, ht, fun s hs => ?_, ?_⟩
      · have := h3 s hs
        rw [fl_get, fl_get] at this
        exact this
      · rw [fl_get, fl_get] at h4
        exact h4
  · rintro ⟨t, ht, h1, h2⟩
    refine .inr ⟨t, by rw [fl_len]; exact ht, by rw [fl_len]; exact ht, fun s hs => ?_, ?_⟩
    · rw [fl_get, fl_get]
      exact h1 s hs
    · rw [fl_get, fl_get]
      exact h2
theorem fl_eq {f g : Nat → Nat} {n : Nat} : fl f n = fl g n ↔ ∀ t, t < n → f t = g t := by
  constructor
  · intro h t ht
    have h1 : (fl f n)[t]? = (fl g n)[t]? := by rw [h]
    unfold fl at h1
    simpa [ht] using h1
  · intro h
    unfold fl
    apply List.map_congr_left
    intro t ht
    exact h t (List.mem_range.mp ht)
/-- either alike, or one is less -/
theorem tri (f g : Nat → Nat) : ∀ n, (∀ t, t < n → f t = g t) ∨ FLt f g n ∨ FLt g f n
  | 0 => .inl fun t h => absurd h (by omega)
  | n + 1 => by
    rcases tri f g n with h | ⟨t, h1, h2⟩ | ⟨t, h1, h2⟩
    · rcases Nat.lt_trichotomy (f n) (g n) with h3 | h3 | h3
      · exact .inr (.inl ⟨n, by omega, h, h3⟩)
      · refine .inl fun t ht => ?_
        by_cases e : t = n
        · rw [e]; exact h3
        · exact h t (by omega)
      · exact .inr (.inr ⟨n, by omega, fun s hs => (h s hs).symm, h3⟩)
    · exact .inr (.inl ⟨t, by omega, h2⟩)
    · exact .inr (.inr ⟨t, by omega, h2⟩)
theorem FLt.irr {f : Nat → Nat} {n : Nat} : ¬ FLt f f n := fun ⟨t, _, _, h⟩ => by omega
theorem FLt.trans {f g h : Nat → Nat} {n : Nat} (a : FLt f g n) (b : FLt g h n) : FLt f h n := by
  obtain ⟨t, h1, h2, h3⟩ := a
  obtain ⟨u, k1, k2, k3⟩ := b
  rcases Nat.lt_trichotomy t u with c | c | c
  · exact ⟨t, h1, fun s hs => (h2 s hs).trans (k2 s (by omega)), by rw [← k2 t c]; exact h3⟩
  · subst c
    exact ⟨t, h1, fun s hs => (h2 s hs).trans (k2 s hs), by omega⟩
  · exact ⟨u, k1, fun s hs => (h2 s (by omega)).trans (k2 s hs), by rw [h2 u c]; exact k3⟩
theorem FLt.asymm {f g : Nat → Nat} {n : Nat} (a : FLt f g n) (b : FLt g f n) : False := FLt.irr (a.trans b)
theorem FLt.congr {f g f' g' : Nat → Nat} {n : Nat} (a : FLt f g n) (h1 : ∀ t, t < n → f t = f' t) (h2 : ∀ t, t < n → g t = g' t) : FLt f' g' n := by
  obtain ⟨t, k1, k2, k3⟩ := a
  exact ⟨t, k1, fun s hs => by rw [← h1 s (by omega), ← h2 s (by omega)]; exact k2 s hs, by rw [← h1 t k1, ← h2 t k1]; exact k3⟩
/-! ### words going round -/
/-- the letter at a place, going round -/
def cyc (l : List Nat) (i : Nat) : Nat := l.getD (i % l.length) 0
theorem cyc_get {l : List Nat} {i c : Nat} (h : l[i % l.length]? = some c) : cyc l i = c := by
  unfold cyc
  rw [List.getD_eq_getElem?_getD, h]
  rfl
theorem cyc_add (l : List Nat) (i : Nat) : cyc l (i + l.length) = cyc l i := by
  unfold cyc
  rw [Nat.add_mod_right]
theorem rot_eq {l : List Nat} {p : Nat} (h : p ≤ l.length) : l.drop p ++ l.take p = fl (fun t => cyc l (p + t)) l.length := by
  apply List.ext_getElem
  · rw [fl_len, List.length_append, List.length_drop, List.length_take]
    omega
  · intro i h1 h2
    rw [fl_get]
    rw [fl_len] at h2
    by_cases c : i < l.length - p
    · rw [List.getElem_append_left (by rw [List.length_drop]; exact c), List.getElem_drop]
      unfold cyc
      rw [Nat.mod_eq_of_lt (by omega), List.getD_eq_getElem?_getD, List.getElem?_eq_getElem (by omega)]
      rfl
    · rw [List.getElem_append_right (by rw [List.length_drop]; omega), List.getElem_take]
      unfold cyc
      have e : (p + i) % l.length = i - (l.drop p).length := by
        rw [List.length_drop]
        have : p + i = (i - (l.length - p)) + l.length := by omega
        rw [this, Nat.add_mod_right, Nat.mod_eq_of_lt (by omega)]
      rw [e, List.getD_eq_getElem?_getD, List.getElem?_eq_getElem (by rw [List.length_drop]; omega)]
      rfl
theorem self_eq (l : List Nat) : l = fl (cyc l) l.length := by
  have := rot_eq (l := l) (p := 0) (Nat.zero_le _)
  simp only [List.drop_zero, List.take_zero, List.append_nil, Nat.zero_add] at this
  exact this
/-! ### the least place -/
/-- a turning less than the one at p -/
def Bad (c : Nat → Nat) (n p : Nat) : Prop := ∃ q, q < n ∧ FLt (fun t => c (q + t)) (fun t => c (p + t)) n
structure LpInv (c : Nat → Nat) (n i j k : Nat) : Prop where
  ne : i ≠ j
  al : ∀ t, t < k → c (i + t) = c (j + t)
  bad : ∀ p, p < i ∨ p < j → p ≠ i → p ≠ j → p < n → Bad c n p
  sm : i < n ∨ j < n
  kn : k ≤ n
theorem lp_start (c : Nat → Nat) {n : Nat} (h : 0 < n) : LpInv c n 0 1 0 := ⟨by decide, fun t h => absurd h (by omega), fun p h h2 h3 _ => by omega, .inl h, by omega⟩
/-- the places from i to i + k are bad where the letters differ at k -/
theorem bad_of {c : Nat → Nat} {n i j k s : Nat} (hc : ∀ x, c (x + n) = c x) (hn : 0 < n) (hj : j < n) (kn : k < n) (al : ∀ t, t < k → c (i + t) = c (j + t)) (h : c (j + k) < c (i + k)) (hs : s ≤ k) : Bad c n (i + s) := by
  have hm : ∀ m x, c (x + m * n) = c x := by
    intro m
    induction m with
    | zero => intro x; simp
    | succ m ih => intro x; rw [Nat.succ_mul, ← Nat.add_assoc, hc, ih]
  have hmod : ∀ x, c (x % n) = c x := fun x => by
    have := hm (x / n) (x % n)
    rw [Nat.mul_comm, Nat.mod_add_div] at this
    exact this.symm
  refine ⟨(j + s) % n, Nat.mod_lt _ hn, k - s, by omega, fun t ht => ?_, ?_⟩
  · show c ((j + s) % n + t) = c (i + s + t)
    have e : c ((j + s) % n + t) = c (j + (s + t)) := by
      rw [← hmod, Nat.mod_add_mod, hmod, Nat.add_assoc]
    rw [e, Nat.add_assoc, al _ (by omega)]
  · show c ((j + s) % n + (k - s)) < c (i + s + (k - s))
    have e : c ((j + s) % n + (k - s)) = c (j + k) := by
      rw [← hmod, Nat.mod_add_mod, hmod]
      congr 1
      omega
    rw [e, show i + s + (k - s) = i + k by omega]
    exact h
theorem lp_more {c : Nat → Nat} {n i j k : Nat} (I : LpInv c n i j k) (hk : k < n) (h : c (i + k) = c (j + k)) : LpInv c n i j (k + 1) :=
  ⟨I.ne, fun t ht => by
    by_cases e : t = k
    · rw [e]; exact h
    · exact I.al t (by omega), I.bad, I.sm, by omega⟩
theorem LpInv.symm {c : Nat → Nat} {n i j k : Nat} (I : LpInv c n i j k) : LpInv c n j i k :=
  ⟨I.ne.symm, fun t h => (I.al t h).symm, fun p h h1 h2 h3 => I.bad p h.symm h2 h1 h3, I.sm.symm, I.kn⟩
/-- the first gives way -/
theorem lp_one {c : Nat → Nat} {n i j k : Nat} (hc : ∀ x, c (x + n) = c x) (I : LpInv c n i j k) (hi : i < n) (hj : j < n) (hk : k < n) (h : c (j + k) < c (i + k)) :
    (i + k + 1 = j → LpInv c n (i + k + 1) (j + 1) 0) ∧ (i + k + 1 ≠ j → LpInv c n (i + k + 1) j 0) := by
  have hb : ∀ p, i ≤ p → p ≤ i + k → Bad c n p := fun p h1 h2 => by
    have := bad_of (s := p - i) hc (by omega) hj hk I.al h (by omega)
    rw [show i + (p - i) = p by omega] at this
    exact this
  refine ⟨fun e => ⟨by omega, fun t ht => absurd ht (by omega), fun p h1 h2 h3 h4 => ?_, .inl (by omega), by omega⟩, fun e => ⟨e, fun t ht => absurd ht (by omega), fun p h1 h2 h3 h4 => ?_, .inr hj, by omega⟩⟩
  · by_cases c1 : p < i
    · exact I.bad p (.inl c1) (by omega) (by omega) h4
    · exact hb p (by omega) (by omega)
  · by_cases c1 : i ≤ p ∧ p ≤ i + k
    · exact hb p c1.1 c1.2
    · exact I.bad p (by omega) (by omega) h3 h4
/-- the place that the walk ends with is the first least one -/
def LeastAt (c : Nat → Nat) (n p : Nat) : Prop := p < n ∧ (∀ q, q < n → ¬ FLt (fun t => c (q + t)) (fun t => c (p + t)) n) ∧ ∀ q, q < p → Bad c n q
/-- of the places below m some is not worse than all others -/
theorem least_ex (c : Nat → Nat) (n : Nat) : ∀ m, 0 < m → ∃ p, p < m ∧ ∀ q, q < m → ¬ FLt (fun t => c (q + t)) (fun t => c (p + t)) n
  | 0, h => absurd h (by omega)
  | 1, _ => ⟨0, by omega, fun q hq => by
    obtain rfl : q = 0 := by omega
    exact FLt.irr⟩
  | m + 2, _ => by
    obtain ⟨p, hp, h⟩ := least_ex c n (m + 1) (by omega)
    by_cases b : FLt (fun t => c ((m + 1) + t)) (fun t => c (p + t)) n
    · refine ⟨m + 1, by omega, fun q hq z => ?_⟩
      by_cases e : q = m + 1
      · subst e
        exact FLt.irr z
      · exact h q (by omega) (z.trans b)
    · refine ⟨p, by omega, fun q hq z => ?_⟩
      by_cases e : q = m + 1
      · subst e
        exact b z
      · exact h q (by omega) z
theorem lp_done {c : Nat → Nat} {n i j k : Nat} (hc : ∀ x, c (x + n) = c x) (hn : 0 < n) (I : LpInv c n i j k) (he : n ≤ i ∨ n ≤ j ∨ n ≤ k) : LeastAt c n (min i j) := by
  obtain ⟨p, hp, hl⟩ := least_ex c n n hn
  have nb : ∀ p, (∀ q, q < n → ¬ FLt (fun t => c (q + t)) (fun t => c (p + t)) n) → ¬ Bad c n p := fun p h ⟨q, h1, h2⟩ => h q h1 h2
  by_cases c1 : n ≤ i
  · have hj : j < n := by have := I.sm; omega
    rw [show min i j = j by omega]
    have e : p = j := by
      refine Classical.byContradiction fun e => nb p hl (I.bad p (.inl (by omega)) (by omega) e hp)
    subst e
    exact ⟨hj, hl, fun q hq => I.bad q (.inl (by omega)) (by omega) (by omega) (by omega)⟩
  by_cases c2 : n ≤ j
  · rw [show min i j = i by omega]
    have e : p = i := by
      refine Classical.byContradiction fun e => nb p hl (I.bad p (.inr (by omega)) e (by omega) hp)
    subst e
    exact ⟨by omega, hl, fun q hq => I.bad q (.inr (by omega)) (by omega) (by omega) (by omega)⟩
  have hk : n ≤ k := by omega
  -- i and j are alike all round
  have hm : ∀ m x, c (x + m * n) = c x := by
    intro m
    induction m with
    | zero => intro x; simp
    | succ m ih => intro x; rw [Nat.succ_mul, ← Nat.add_assoc, hc, ih]
  have hmod : ∀ x, c (x % n) = c x := fun x => by
    have := hm (x / n) (x % n)
    rw [Nat.mul_comm, Nat.mod_add_div] at this
    exact this.symm
  have all : ∀ t, c (i + t) = c (j + t) := fun t => by
    have h1 := I.al (t % n) (Nat.lt_of_lt_of_le (Nat.mod_lt _ hn) hk)
    rw [← hmod (i + t), ← hmod (j + t), ← Nat.add_mod_mod i, ← Nat.add_mod_mod j, hmod, hmod]
    exact h1
  have main : ∀ a b, a < b → b < n → (∀ t, c (a + t) = c (b + t)) → (∀ p, p < b → p ≠ a → Bad c n p) → LeastAt c n a := by
    intro a b hab hb hal hbad
    have down : ∀ p, (∀ t, c (b + t) = c (a + t)) → b ≤ p → ∃ p', p' < p ∧ a ≤ p' ∧ (∀ t, c (p' + t) = c (p + t)) := fun p h hp => ⟨p - (b - a), by omega, by omega, fun t => by
      rw [show p - (b - a) + t = a + (p - b + t) by omega, show p + t = b + (p - b + t) by omega]
      exact (h _).symm⟩
    have good : ∀ m p, p ≤ m → ¬ Bad c n p → ∃ p', (∀ t, c (p' + t) = c (p + t)) ∧ p' = a := by
      intro m
      induction m with
      | zero =>
        intro p h1 h2
        by_cases e : p = a
        · exact ⟨p, fun _ => rfl, e⟩
        · exact absurd (hbad p (by omega) e) h2
      | succ m ih =>
        intro p h1 h2
        by_cases e : p = a
        · exact ⟨p, fun _ => rfl, e⟩
        by_cases e2 : p < b
        · exact absurd (hbad p e2 e) h2
        obtain ⟨p', h3, h4, h5⟩ := down p (fun t => (hal t).symm) (by omega)
        obtain ⟨p'', h6, h7⟩ := ih p' (by omega) fun ⟨q, hq, hf⟩ => h2 ⟨q, hq, hf.congr (fun _ _ => rfl) fun t _ => h5 t⟩
        exact ⟨p'', fun t => (h6 t).trans (h5 t), h7⟩
    obtain ⟨p', h1, rfl⟩ := good p p (Nat.le_refl _) (nb p hl)
    exact ⟨by omega, fun q hq z => hl q hq (z.congr (fun _ _ => rfl) fun t _ => h1 t), fun q hq => hbad q (by omega) (by omega)⟩
  rcases Nat.lt_or_gt_of_ne I.ne with h | h
  · rw [show min i j = i by omega]
    exact main i j h (by omega) all fun p h1 h2 => I.bad p (.inr h1) h2 (by omega) (by omega)
  · rw [show min i j = j by omega]
    exact main j i h (by omega) (fun t => (all t).symm) fun p h1 h2 => I.bad p (.inl h1) (by omega) h2 (by omega)
end RW

/-! P5: the least place, the least turn, the least form; steps between. -/
namespace RW
open PySem PySem.Spec PyProof.Rows L2
open Evl (Ex ex_l ex_t ex_rd fresh_back)
local macro_rules | `(tactic| walk_at "x") => `(tactic| first
  | ((with_reducible apply x_var); exact rfl)
  | with_reducible refine x_c ?_
  | with_reducible refine x_op ?_
  | with_reducible refine x_un ?_
  | with_reducible refine x_neg ?_
  | with_reducible refine x_addI ?_
  | with_reducible refine x_subI ?_
  | with_reducible refine x_ltI ?_
  | with_reducible refine x_ltS ?_
  | with_reducible refine x_leI ?_
  | with_reducible refine x_leS ?_
  | with_reducible refine x_gtI ?_
  | with_reducible refine x_gtS ?_
  | with_reducible refine x_geI ?_
  | with_reducible refine x_eqI ?_
  | with_reducible refine x_eqS ?_
  | with_reducible refine x_eqB ?_
  | with_reducible refine x_neI ?_
  | with_reducible refine x_neS ?_
  | with_reducible refine x_isN ?_
  | with_reducible refine x_isB ?_
  | with_reducible refine x_isNotN ?_
  | with_reducible refine x_isNotB ?_
  | with_reducible refine x_inS ?_
  | with_reducible refine x_sl ?_
  | with_reducible refine x_part ?_
  | with_reducible refine x_nopart ?_
  | with_reducible refine x_rev ?_
  | with_reducible refine x_nil ?_
  | with_reducible refine x_cons ?_
  | with_reducible refine x_lst0 ?_
  | with_reducible refine x_tup0 ?_
  | with_reducible refine x_call0 ?_
  | with_reducible refine x_callS ?_
  | with_reducible refine x_cb ?_
  | with_reducible refine x_m1 ?_
  | with_reducible refine x_m1s ?_
  | with_reducible refine x_bm ?_
  | with_reducible refine x_bm0 ?_
  | with_reducible refine x_tyS ?_
  | with_reducible refine x_max2 ?_
  | with_reducible refine x_min2 ?_
  | with_reducible refine x_seq ?_
  | with_reducible refine x_asg ?_
  | with_reducible refine x_asgG ?_
  | with_reducible refine x_ret ?_
  | with_reducible refine x_retN ?_
  | with_reducible refine x_if ?_
  | with_reducible refine x_next ?_
  | with_reducible refine x_drop ?_
  | with_reducible refine x_break ?_
  | with_reducible refine x_cont ?_
  | with_reducible refine x_par ?_
  | with_reducible refine x_par2 ?_
  | ((with_reducible apply x_aug); exact rfl)
  | with_reducible refine x_ip ?_
  | with_reducible refine x_test ?_
  | with_reducible refine x_tB ?_
  | with_reducible refine x_bl ?_
  | with_reducible refine x_and ?_
  | with_reducible refine x_or ?_
  | with_reducible refine x_not ?_
  | with_reducible refine x_andV ?_
  | with_reducible refine x_orV ?_
  | with_reducible refine x_notV ?_
  | with_reducible refine x_ifV ?_
  | with_reducible refine x_chain ?_
  | with_reducible refine x_intA ?_
  | with_reducible refine x_strA ?_
  | with_reducible refine x_yes ?_
  | with_reducible refine iteT ?_
  | with_reducible refine iteF ?_
  | with_reducible refine x_forRng1 ?_
  | with_reducible refine x_forRng2 ?_
  | with_reducible refine x_forLst ?_
  | with_reducible refine x_forU ?_
  | with_reducible refine x_lcRng1 ?_
  | with_reducible refine x_lcRng2 ?_
  | with_reducible refine x_lcLst ?_
  | with_reducible refine x_lcU ?_
  | with_reducible refine x_uS ?_
  | with_reducible refine x_gcons ?_
  | with_reducible refine x_gnil ?_
  -- with side conditions
  | ((with_reducible refine x_addS ?hs ?_); (case hs => walk_at "sz"))
  | ((with_reducible refine x_divI ?hs ?ht ?_); (case hs => walk_at "sz"); (case ht => walk_at "sz"))
  | ((with_reducible refine x_modI ?hs ?_); (case hs => walk_at "sz"))
  | ((with_reducible refine x_mulI ?hs ?_); (case hs => walk_at "sz"))
  | ((with_reducible refine x_lenS ?hs ?_); (case hs => walk_at "sz"))
  | ((with_reducible refine x_slSlo ?hs ?_); (case hs => walk_at "sz"))
  | ((with_reducible refine x_slShi ?hs ?_); (case hs => walk_at "sz"))
  | ((with_reducible refine x_slSlohi ?hs ?_); (case hs => walk_at "sz"))
  | ((with_reducible refine x_slShiNeg ?hs ?_); (case hs => walk_at "sz"))
  | ((with_reducible refine x_slSloI ?ht ?hs ?_); (case ht => walk_at "sz"); (case hs => walk_at "sz"))
  | ((with_reducible refine x_slShiI ?ht ?hs ?_); (case ht => walk_at "sz"); (case hs => walk_at "sz"))
  | ((with_reducible refine x_rng1 ?hs ?ht ?_); (case hs => walk_at "sz"); (case ht => walk_at "sz"))
  | ((with_reducible refine x_rng2 ?hs ?_); (case hs => walk_at "sz"))
  | ((with_reducible refine x_newL ?hs ?_); (case hs => walk_at "sz"); intro px Hx npx ex hpx)
  | ((with_reducible refine x_newT ?hs ?_); (case hs => walk_at "sz"); intro px Hx npx ex hpx)
  | ((with_reducible apply x_lenL); (walk_at "hp"))
  | ((with_reducible apply x_refL); (walk_at "hp"))
  | ((with_reducible apply x_uL); (walk_at "hp"))
  | ((with_reducible apply x_tyL); (walk_at "hp"))
  )
local macro_rules | `(tactic| walk_at "xs") => `(tactic| repeat (walk_at "x"))
/- sizes, bounds -/
local macro_rules | `(tactic| walk_at "sz") => `(tactic| first
  | with_reducible assumption
  | (rw [sizeLine_eq]; first | omega | (simp only [List.length_cons, List.length_nil, List.length_append, List.length_map, List.length_reverse, List.length_range, List.length_drop, List.length_take, List.length_dropLast]; omega))
  | omega
  | (unfold CMul; omega)
  | (simp only [List.length_cons, List.length_nil, List.length_append, List.length_map, List.length_reverse, List.length_range, List.length_drop, List.length_take, List.length_dropLast]; omega))
/- what stands in the heap -/
local macro_rules | `(tactic| walk_at "hp") => `(tactic| first
  | assumption
  | ((with_reducible apply SqL.of); walk_at "hp")
  | ((with_reducible apply SqT.of); walk_at "hp")
  | ((with_reducible apply Ex.at_); assumption; walk_at "hp")
  | ((with_reducible apply ex_l); assumption; walk_at "hp")
  | ((with_reducible apply ex_t); assumption; walk_at "hp"))
local macro_rules | `(tactic| walk_at "ex") => `(tactic| first
  | assumption
  | exact Ex.rfl'
  | (refine Ex.trs ?_ (by assumption); walk_at "ex"))
/- an item at a place within: what is left speaks of the item -/
local macro_rules | `(tactic| walk_at "ix") => `(tactic| ((with_reducible apply x_ixLm); (walk_at "hp"); (walk_at "sz"); (walk_at "sz")))
local macro_rules | `(tactic| walk_at "is") => `(tactic| ((with_reducible apply x_ixSm); (walk_at "sz"); (walk_at "sz"); (walk_at "sz")))

local macro_rules | `(tactic| walk_at "y") => `(tactic| repeat (walk_at "x"))
section
variable {g : G} {vs : List V} {H : Hp} {Q : VK} {E : XK} {K : Frag}
theorem x_ixCyc {l : List Nat} {i : Nat} (hz : l.length ≤ sizeLine) (h0 : 0 < l.length) (q : Q (.str (ST [cyc l i])) H) : rIx K (.str (ST l)) (.int ((i : Int) % (l.length : Int))) H Q := by
  refine x_ixSm hz (Int.emod_nonneg _ (by omega)) (Int.emod_lt_of_pos _ (by omega)) fun c _ hc => ?_
  have e : ((i : Int) % (l.length : Int)).toNat = i % l.length := by
    rw [← Int.natCast_emod]
    rfl
  rw [e] at hc
  rw [← cyc_get hc]
  exact q
theorem one_lt {a b : Nat} : ([b] < [a]) ↔ b < a := by
  rw [List.cons_lt_cons_iff]
  constructor
  · rintro (h | ⟨_, h⟩)
    · exact h
    · exact absurd h (List.not_lt_nil _)
  · exact .inl
/-! ### least_place -/
def sp_least_place (g : G) : Sp := fun vs H Q _ => ∃ l, vs = [.str (ST l)] ∧ 1 ≤ l.length ∧ l.length ≤ 1000 ∧ ∀ (p : Nat) H', LeastAt (cyc l) l.length p → Ex H H' → Q (.int p) H'
theorem c_least_place {l : List Nat} (h : 1 ≤ l.length) (h2 : l.length ≤ 1000) (q : ∀ (p : Nat) H', LeastAt (cyc l) l.length p → Ex H H' → Q (.int p) H') : sp_least_place g [.str (ST l)] H Q E := ⟨l, rfl, h, h2, q⟩
/-- least_place: slots word, one, other, alike, many, first, second -/
def t_least_place (g : G) : TS :=
  tSeq (tAsg (tC (.int 0)) (gName 1))
    (tSeq (tAsg (tC (.int 1)) (gName 2))
    (tSeq (tAsg (tC (.int 0)) (gName 3))
    (tSeq (tAsg (tCB (rLen g.K) (tCons (tVar 0) tNil)) (gName 4))
    (tSeq (tWhile (tAnd (tTest (tOp uLt (tVar 1) (tVar 4))) (tAnd (tTest (tOp uLt (tVar 2) (tVar 4))) (tTest (tOp uLt (tVar 3) (tVar 4))))) (tSeq (tAsg (tOp (rIx g.K) (tVar 0) (tOp uMod (tOp (uAdd g.K) (tVar 1) (tVar 3)) (tVar 4))) (gName 5))
    (tSeq (tAsg (tOp (rIx g.K) (tVar 0) (tOp uMod (tOp (uAdd g.K) (tVar 2) (tVar 3)) (tVar 4))) (gName 6))
    (tSeq (tIfS (tTest (tOp (uEq g.K) (tVar 5) (tVar 6))) (tSeq (tAug 3 (tC (.int 1)) (ipI fun i j => i + j))
    tCont) tNext)
    (tSeq (tIfS (tTest (tOp uGt (tVar 5) (tVar 6))) (tAug 1 (tOp (uAdd g.K) (tVar 3) (tC (.int 1))) (ipI fun i j => i + j)) (tAug 2 (tOp (uAdd g.K) (tVar 3) (tC (.int 1))) (ipI fun i j => i + j)))
    (tSeq (tIfS (tTest (tOp (uEq g.K) (tVar 1) (tVar 2))) (tAug 2 (tC (.int 1)) (ipI fun i j => i + j)) tNext)
    (tAsg (tC (.int 0)) (gName 3))))))))
    (tRet (tCB (rMinU g.K) (tCons (tVar 1) (tCons (tVar 2) tNil))))))))
theorem p_least_place (h : sp_least_place g vs H Q E) : t_least_place g (D0 Q) (st0 7 vs) H := by
  obtain ⟨l, rfl, h1, h2, q⟩ := h
  show t_least_place g (D0 Q) [some (.str (ST l)), none, none, none, none, none, none] H
  unfold t_least_place
  walk_at "y"
  have hc := cyc_add l
  refine x_whileB (fun (a : (Nat × Nat × Nat) × Option V × Option V) => [some (.str (ST l)), some (.int a.1.1), some (.int a.1.2.1), some (.int a.1.2.2), some (.int l.length), a.2.1, a.2.2])
    (fun a H' => Ex H H' ∧ LpInv (cyc l) l.length a.1.1 a.1.2.1 a.1.2.2 ∧ a.1.1 ≤ 2 * l.length ∧ a.1.2.1 ≤ 2 * l.length + 1) (fun a => 9 * l.length + 9 - (a.1.1 + a.1.2.1 + a.1.2.2)) ((0, 1, 0), none, none) rfl ⟨Ex.rfl', lp_start _ (by omega), by simp, by simp⟩ ?_
  rintro ⟨⟨i, j, k⟩, f, s⟩ H1 ⟨e, I, b1, b2⟩ P hP
  dsimp only at I b1 b2 hP ⊢
  have fin : (l.length ≤ i ∨ l.length ≤ j ∨ l.length ≤ k) → tRet (tCB (rMinU g.K) (tCons (tVar 1) (tCons (tVar 2) tNil))) { nx := fun x H' => Q V.non H', rt := Q } [some (.str (ST l)), some (.int i), some (.int j), some (.int k), some (.int l.length), f, s] H1 := fun he => by
    walk_at "y"
    have L := lp_done hc (by omega) I he
    have e1 : (if (j : Int) < (i : Int) then (j : Int) else (i : Int)) = ((min i j : Nat) : Int) := by split <;> omega
    rw [e1]
    exact q _ _ L e
  walk_at "y"
  refine x_ifd (fun hi => ?_) fun hi => ?_
  rotate_left
  · refine hP _ _ Ex.rfl' (fun h => absurd h (by decide)) fun _ => fin (.inl (by omega))
  walk_at "y"
  refine x_ifd (fun hj => ?_) fun hj => ?_
  rotate_left
  · refine hP _ _ Ex.rfl' (fun h => absurd h (by decide)) fun _ => fin (.inr (.inl (by omega)))
  walk_at "y"
  refine hP _ _ Ex.rfl' (fun hk => ?_) fun hk => ?_
  rotate_left
  · have hk := of_decide_eq_false hk
    exact fin (.inr (.inr (by omega)))
  have hk := of_decide_eq_true hk
  have hi' : i < l.length := by omega
  have hj' : j < l.length := by omega
  have hk' : k < l.length := by omega
  walk_at "y"
  show rIx g.K (.str (ST l)) (.int (((i + k : Nat) : Int) % (l.length : Int))) H1 _
  refine x_ixCyc (by walk_at "sz") (by omega) ?_
  walk_at "y"
  show rIx g.K (.str (ST l)) (.int (((j + k : Nat) : Int) % (l.length : Int))) H1 _
  refine x_ixCyc (by walk_at "sz") (by omega) ?_
  walk_at "y"
  refine x_ifd (fun he => ?_) fun he => ?_
  · have he' : cyc l (i + k) = cyc l (j + k) := by simpa using he
    walk_at "y"
    refine ⟨((i, j, k + 1), _, _), rfl, ⟨e, lp_more I hk' he', b1, b2⟩, ?_⟩
    simp only
    omega
  · have he' : cyc l (i + k) ≠ cyc l (j + k) := fun z => he (by rw [z])
    walk_at "y"
    refine x_ifK (fun σ' H' => ∃ i' j' : Nat, LpInv (cyc l) l.length i' j' 0 ∧ i' ≤ 2 * l.length ∧ j' ≤ 2 * l.length + 1 ∧ i + j + k < i' + j' ∧ H' = H1 ∧ ∃ i0 j0 : Nat, ((i0 = j0 ∧ i' = i0 ∧ j' = j0 + 1) ∨ (i0 ≠ j0 ∧ i' = i0 ∧ j' = j0)) ∧ σ' = [some (.str (ST l)), some (.int i0), some (.int j0), some (.int k), some (.int l.length), some (.str (ST [cyc l (i + k)])), some (.str (ST [cyc l (j + k)]))]) ?_ (fun N hN hb => ?_) fun N hN hb => ?_
    rotate_left
    · have hb := one_lt.mp (of_decide_eq_true hb)
      have S := lp_one hc I hi' hj' hk' hb
      walk_at "y"
      by_cases c : i + k + 1 = j
      · exact hN _ _ ⟨i + k + 1, j + 1, S.1 c, by omega, by omega, by omega, rfl, i + k + 1, j, .inl ⟨c, rfl, rfl⟩, by simp [Int.add_assoc]⟩
      · exact hN _ _ ⟨i + k + 1, j, S.2 c, by omega, by omega, by omega, rfl, i + k + 1, j, .inr ⟨c, rfl, rfl⟩, by simp [Int.add_assoc]⟩
    · have hb : ¬ (cyc l (j + k) < cyc l (i + k)) := fun z => absurd (one_lt.mpr z) (of_decide_eq_false hb)
      have S := lp_one hc I.symm hj' hi' hk' (by omega)
      walk_at "y"
      by_cases c : j + k + 1 = i
      · refine hN _ _ ⟨i, j + k + 1 + 1, ?_, by omega, by omega, by omega, rfl, i, j + k + 1, .inl ⟨c.symm, rfl, rfl⟩, by simp [Int.add_assoc]⟩
        have := S.1 c
        rw [show j + k + 1 + 1 = i + 1 by omega]
        rw [c] at this
        exact this
      · exact hN _ _ ⟨i, j + k + 1, (S.2 c).symm, by omega, by omega, by omega, rfl, i, j + k + 1, .inr ⟨fun z => c z.symm, rfl, rfl⟩, by simp [Int.add_assoc]⟩
    rintro _ _ ⟨i', j', I', b1', b2', lt, rfl, i0, j0, hd, rfl⟩
    walk_at "y"
    rcases hd with ⟨h3, rfl, rfl⟩ | ⟨h3, rfl, rfl⟩
    · refine x_it (decide_eq_true (by omega)) ?_
      walk_at "y"
      refine ⟨((i', j0 + 1, 0), _, _), rfl, ⟨e, I', b1', b2'⟩, ?_⟩
      simp only
      omega
    · refine x_if0 (decide_eq_false (by omega)) ?_
      walk_at "y"
      refine ⟨((i', j', 0), _, _), rfl, ⟨e, I', b1', b2'⟩, ?_⟩
      simp only
      omega
theorem turnL_fl {l : List Nat} {p : Nat} (h : p < l.length) : turnL l p = fl (fun t => cyc l (p + t)) l.length := rot_eq (by omega)
/-- the first place of the least turning is the least place -/
theorem least_idx {l m : List Nat} {j p : Nat} (hmin : ∀ y, y ∈ turnsL l → ¬ y < m) (hj : (turnsL l)[j]? = some m) (hn : ∀ i, i < j → (turnsL l)[i]? ≠ some m) (L : LeastAt (cyc l) l.length p) : p = j := by
  obtain ⟨hj1, rfl⟩ := turnsL_ex hj
  obtain ⟨hp, h1, h2⟩ := L
  rcases Nat.lt_trichotomy j p with c | c | c
  · obtain ⟨q, hq, hf⟩ := h2 j c
    refine absurd ?_ (hmin (turnL l q) (turnsL_mem.mpr ⟨q, hq, rfl⟩))
    rw [turnL_fl hq, turnL_fl hj1, fl_lt]
    exact hf
  · exact c.symm
  · refine absurd ?_ (hn p c)
    rw [turnsL_get hp]
    congr 1
    rw [turnL_fl hp, turnL_fl hj1, fl_eq]
    rcases tri (fun t => cyc l (p + t)) (fun t => cyc l (j + t)) l.length with h | h | h
    · exact h
    · refine absurd ?_ (hmin (turnL l p) (turnsL_mem.mpr ⟨p, hp, rfl⟩))
      rw [turnL_fl hp, turnL_fl hj1, fl_lt]
      exact h
    · exact absurd h (h1 j hj1)
/-! ### least_turn, least_form -/
def sp_least_turn (g : G) : Sp := fun vs H Q E => (∃ l, vs = [.str (ST l)] ∧ Word l ∧ ∀ (p : Nat) H', LeastAt (cyc l) l.length p → Ex H H' → Q (.int p) H') ∨ (∃ v, vs = [v] ∧ IsW g.K H v false ∧ ∀ H', Ex H H' → E (.ref g.cNoWord) none H')
theorem c_least_turn {l : List Nat} (h : Word l) (q : ∀ (p : Nat) H', LeastAt (cyc l) l.length p → Ex H H' → Q (.int p) H') : sp_least_turn g [.str (ST l)] H Q E := .inl ⟨l, rfl, h, q⟩
theorem c_least_turnN {v : V} (h : IsW g.K H v false) (q : ∀ H', Ex H H' → E (.ref g.cNoWord) none H') : sp_least_turn g [v] H Q E := .inr ⟨v, rfl, h, q⟩
/-- least_turn: slots word -/
def t_least_turn (g : G) (E : XK) : TS :=
  tSeq (tDrop (tCall (sp_need_word g) [] E (tCons (tVar 0) tNil)))
    (tRet (tCall (sp_least_place g) [] E0 (tCons (tVar 0) tNil)))
theorem p_least_turn (h : sp_least_turn g vs H Q E) : t_least_turn g E (D0 Q) (st0 1 vs) H := by
  rcases h with ⟨l, rfl, hw, q⟩ | ⟨v, rfl, hw, q⟩
  · show t_least_turn g E (D0 Q) [some (.str (ST l))] H
    unfold t_least_turn
    walk_at "y"
    refine c_need_word hw fun H' e => ?_
    have := hw.2
    walk_at "y"
    exact c_least_place (by omega) (by omega) fun p H2 L e2 => q _ _ L (Ex.trs e e2)
  · show t_least_turn g E (D0 Q) [some v] H
    unfold t_least_turn
    walk_at "y"
    exact c_need_wordN hw q
def sp_least_form (g : G) : Sp := fun vs H Q E => (∃ l, vs = [.str (ST l)] ∧ Word l ∧ ∀ (p : Nat) H', LeastAt (cyc l) l.length p → Ex H H' → Q (.str (ST (turnL l p))) H') ∨ (∃ v, vs = [v] ∧ IsW g.K H v false ∧ ∀ H', Ex H H' → E (.ref g.cNoWord) none H')
theorem c_least_form {l : List Nat} (h : Word l) (q : ∀ (p : Nat) H', LeastAt (cyc l) l.length p → Ex H H' → Q (.str (ST (turnL l p))) H') : sp_least_form g [.str (ST l)] H Q E := .inl ⟨l, rfl, h, q⟩
theorem c_least_formN {v : V} (h : IsW g.K H v false) (q : ∀ H', Ex H H' → E (.ref g.cNoWord) none H') : sp_least_form g [v] H Q E := .inr ⟨v, rfl, h, q⟩
/-- least_form: slots word -/
def t_least_form (g : G) (E : XK) : TS :=
  tSeq (tDrop (tCall (sp_need_word g) [] E (tCons (tVar 0) tNil)))
    (tRet (tCall (sp_from_place g) [] E0 (tCons (tVar 0) (tCons (tCall (sp_least_place g) [] E0 (tCons (tVar 0) tNil)) tNil))))
theorem p_least_form (h : sp_least_form g vs H Q E) : t_least_form g E (D0 Q) (st0 1 vs) H := by
  rcases h with ⟨l, rfl, hw, q⟩ | ⟨v, rfl, hw, q⟩
  · show t_least_form g E (D0 Q) [some (.str (ST l))] H
    unfold t_least_form
    walk_at "y"
    refine c_need_word hw fun H' e => ?_
    have := hw.2
    walk_at "y"
    refine c_least_place (by omega) (by omega) fun p H2 L e2 => ?_
    walk_at "y"
    exact c_from_place (by omega) (by omega) (q _ _ L (Ex.trs e e2))
  · show t_least_form g E (D0 Q) [some v] H
    unfold t_least_form
    walk_at "y"
    exact c_need_wordN hw q
end
end RW

/-! M2: borders, beats, roots. -/
namespace RW
/-- the first L letters of the first m are the last L of them -/
def Bd (c : Nat → Nat) (m L : Nat) : Prop := L < m ∧ ∀ t, t < L → c t = c (m - L + t)
def LB (c : Nat → Nat) (m L : Nat) : Prop := Bd c m L ∧ ∀ L', Bd c m L' → L' ≤ L
theorem Bd.trans {c : Nat → Nat} {m L L' : Nat} (a : Bd c m L) (b : Bd c L L') : Bd c m L' := ⟨Nat.lt_trans b.1 a.1, fun t ht => by
  have h1 := b.2 t ht
  have := a.1
  have := b.1
  have h2 := a.2 (L - L' + t) (by omega)
  rw [h1, h2]
  congr 1
  omega⟩
theorem Bd.inner {c : Nat → Nat} {m L L' : Nat} (a : Bd c m L) (b : Bd c m L') (h : L' < L) : Bd c L L' := ⟨h, fun t ht => by
  have := a.1
  have h1 := b.2 t ht
  have h2 := a.2 (L - L' + t) (by omega)
  rw [h1, h2]
  congr 1
  omega⟩
theorem Bd.zero {c : Nat → Nat} {m : Nat} (h : 0 < m) : Bd c m 0 := ⟨h, fun t ht => absurd ht (by omega)⟩
theorem Bd.succ {c : Nat → Nat} {m L : Nat} : Bd c (m + 1) (L + 1) ↔ Bd c m L ∧ c L = c m := by
  constructor
  · rintro ⟨h1, h2⟩
    refine ⟨⟨by omega, fun t ht => ?_⟩, ?_⟩
    · have := h2 t (by omega)
      rw [this]
      congr 1
      omega
    · have := h2 L (by omega)
      rw [this]
      congr 1
      omega
  · rintro ⟨⟨h1, h2⟩, h3⟩
    refine ⟨by omega, fun t ht => ?_⟩
    by_cases e : t = L
    · rw [e, h3]
      congr 1
      omega
    · rw [h2 t (by omega)]
      congr 1
      omega
theorem LB.uniq {c : Nat → Nat} {m L L' : Nat} (a : LB c m L) (b : LB c m L') : L = L' := Nat.le_antisymm (b.2 _ a.1) (a.2 _ b.1)
theorem LB.one (c : Nat → Nat) : LB c 1 0 := ⟨Bd.zero (by decide), fun L h => by have := h.1; omega⟩
/-- what the inner walk keeps -/
structure BInv (c : Nat → Nat) (m L : Nat) : Prop where
  b : Bd c m L
  m : ∀ L', Bd c m L' → c L' = c m → L' ≤ L
theorem BInv.start {c : Nat → Nat} {m L : Nat} (h : LB c m L) : BInv c m L := ⟨h.1, fun L' h1 _ => h.2 L' h1⟩
theorem BInv.step {c : Nat → Nat} {m L L2 : Nat} (I : BInv c m L) (h : LB c L L2) (ne : c L ≠ c m) : BInv c m L2 := ⟨I.b.trans h.1, fun L' h1 h2 => by
  have h3 := I.m L' h1 h2
  have h4 : L' ≠ L := fun e => ne (by rw [← e]; exact h2)
  exact h.2 L' (I.b.inner h1 (by omega))⟩
theorem BInv.yes {c : Nat → Nat} {m L : Nat} (I : BInv c m L) (h : c L = c m) : LB c (m + 1) (L + 1) := ⟨Bd.succ.mpr ⟨I.b, h⟩, fun L' h1 => by
  cases L' with
  | zero => omega
  | succ L' =>
    have := I.m L' (Bd.succ.mp h1).1 (Bd.succ.mp h1).2
    omega⟩
theorem BInv.no {c : Nat → Nat} {m : Nat} (I : BInv c m 0) (h : c 0 ≠ c m) : LB c (m + 1) 0 := ⟨Bd.zero (by omega), fun L' h1 => by
  cases L' with
  | zero => omega
  | succ L' =>
    have h2 := Bd.succ.mp h1
    have := I.m L' h2.1 h2.2
    obtain rfl : L' = 0 := by omega
    exact absurd h2.2 h⟩
/-- the letter at a place -/
def lt_ (l : List Nat) (i : Nat) : Nat := l.getD i 0
theorem lt_get {l : List Nat} {i c : Nat} (h : l[i]? = some c) : lt_ l i = c := by
  unfold lt_
  rw [List.getD_eq_getElem?_getD, h]
  rfl
theorem lt_some {l : List Nat} {i : Nat} (h : i < l.length) : l[i]? = some (lt_ l i) := by
  unfold lt_
  rw [List.getD_eq_getElem?_getD, List.getElem?_eq_getElem h]
  rfl
theorem list_ext {l m : List Nat} (h : l.length = m.length) (h2 : ∀ i, i < l.length → lt_ l i = lt_ m i) : l = m := by
  apply List.ext_getElem h
  intro i h3 h4
  have := h2 i h3
  have e1 := lt_some h3
  have e2 := lt_some h4
  rw [List.getElem?_eq_getElem h3] at e1
  rw [List.getElem?_eq_getElem h4] at e2
  rw [Option.some.inj e1, Option.some.inj e2, this]
theorem lt_take {l : List Nat} {k i : Nat} (h : i < k) : lt_ (l.take k) i = lt_ l i := by
  unfold lt_
  rw [List.getD_eq_getElem?_getD, List.getD_eq_getElem?_getD, List.getElem?_take, if_pos h]
theorem lt_drop {l : List Nat} {k i : Nat} : lt_ (l.drop k) i = lt_ l (k + i) := by
  unfold lt_
  rw [List.getD_eq_getElem?_getD, List.getD_eq_getElem?_getD, List.getElem?_drop]
/-- borders by slices -/
theorem bd_iff {l : List Nat} {L : Nat} (h : L < l.length) : l.take L = l.drop (l.length - L) ↔ Bd (lt_ l) l.length L := by
  constructor
  · intro e
    refine ⟨h, fun t ht => ?_⟩
    have : lt_ (l.take L) t = lt_ (l.drop (l.length - L)) t := by rw [e]
    rw [lt_take ht, lt_drop] at this
    exact this
  · rintro ⟨_, h2⟩
    apply list_ext
    · rw [List.length_take, List.length_drop]
      omega
    · intro i hi
      rw [List.length_take] at hi
      rw [lt_take (by omega), lt_drop]
      exact h2 i (by omega)
/-- all borders, rising -/
def bordersL (l : List Nat) : List Nat := (List.range l.length).filter fun L => decide (1 ≤ L) && decide (l.take L = l.drop (l.length - L))
theorem range_cut {n L : Nat} (h : L < n) : List.range n = List.range L ++ L :: List.range' (L + 1) (n - L - 1) := by
  rw [List.range_eq_range', List.range_eq_range']
  have e : L :: List.range' (L + 1) (n - L - 1) = List.range' L (n - L) := by
    rw [show n - L = (n - L - 1) + 1 by omega]
    rfl
  rw [e]
  have := List.range'_append_1 (s := 0) (m := L) (n := n - L)
  rw [Nat.zero_add] at this
  rw [this]
  congr 1
  omega
theorem filter_step {P : Nat → Bool} {n L L2 : Nat} (h : L < n) (hP : P L = true) (h2 : L2 < L) (hn : ∀ x, L2 < x → x < L → P x = false) :
    (List.range n).filter (fun x => decide (L2 < x) && P x) = L :: (List.range n).filter (fun x => decide (L < x) && P x) := by
  rw [range_cut h, List.filter_append, List.filter_append, List.filter_cons, List.filter_cons]
  have e1 : (List.range L).filter (fun x => decide (L2 < x) && P x) = [] := by
    rw [List.filter_eq_nil_iff]
    intro x hx
    have hx := List.mem_range.mp hx
    by_cases c : L2 < x
    · rw [hn x c hx]
      simp
    · simp [c]
  have e2 : (List.range L).filter (fun x => decide (L < x) && P x) = [] := by
    rw [List.filter_eq_nil_iff]
    intro x hx
    have hx := List.mem_range.mp hx
    simp
    omega
  rw [e1, e2, if_pos (by simp [h2, hP]), if_neg (by simp)]
  simp only [List.nil_append]
  congr 1
  apply List.filter_congr
  intro x hx
  rw [List.mem_range'_1] at hx
  rw [decide_eq_true (by omega), decide_eq_true (by omega)]
theorem filter_none {P : Nat → Bool} {n L : Nat} (hn : ∀ x, L < x → x < n → P x = false) : (List.range n).filter (fun x => decide (L < x) && P x) = [] := by
  rw [List.filter_eq_nil_iff]
  intro x hx
  have hx := List.mem_range.mp hx
  by_cases c : L < x
  · rw [hn x c hx]
    simp
  · simp [c]
/-- the borders above L -/
def above (l : List Nat) (L : Nat) : List Nat := (List.range l.length).filter fun x => decide (L < x) && decide (l.take x = l.drop (l.length - x))
theorem above_zero (l : List Nat) : above l 0 = bordersL l := rfl
theorem above_top {l : List Nat} {L : Nat} (h : LB (lt_ l) l.length L) : above l L = [] :=
  filter_none fun x h1 h2 => decide_eq_false fun e => by have := h.2 x ((bd_iff h2).mp e); omega
theorem above_step {l : List Nat} {L L2 : Nat} (h : Bd (lt_ l) l.length L) (h2 : LB (lt_ l) L L2) : above l L2 = L :: above l L :=
  filter_step h.1 (decide_eq_true ((bd_iff h.1).mpr h)) h2.1.1 fun x h3 h4 => decide_eq_false fun e => by
    have := h2.2 x (h.inner ((bd_iff (by have := h.1; omega)).mp e) h4)
    omega
/-! ### beats -/
/-- each letter comes again p places on -/
def Per (c : Nat → Nat) (n p : Nat) : Prop := ∀ t, t + p < n → c t = c (t + p)
def Beat (c : Nat → Nat) (n p : Nat) : Prop := 1 ≤ p ∧ p ≤ n ∧ Per c n p ∧ ∀ q, 1 ≤ q → q < p → ¬ Per c n q
theorem per_bd {c : Nat → Nat} {n p : Nat} (h : 1 ≤ p) (h2 : p ≤ n) : Per c n p ↔ Bd c n (n - p) := by
  constructor
  · intro H
    refine ⟨by omega, fun t ht => ?_⟩
    rw [H t (by omega)]
    congr 1
    omega
  · rintro ⟨_, H⟩ t ht
    rw [H t (by omega)]
    congr 1
    omega
theorem beat_of {c : Nat → Nat} {n L : Nat} (h : LB c n L) : Beat c n (n - L) := by
  have h1 := h.1.1
  refine ⟨by omega, by omega, (per_bd (by omega) (by omega)).mpr (by rw [show n - (n - L) = L by omega]; exact h.1), fun q hq hq2 hp => ?_⟩
  have := h.2 _ ((per_bd hq (by omega)).mp hp)
  omega
theorem Beat.uniq {c : Nat → Nat} {n p q : Nat} (a : Beat c n p) (b : Beat c n q) : p = q := by
  rcases Nat.lt_trichotomy p q with h | h | h
  · exact absurd a.2.2.1 (b.2.2.2 p a.1 h)
  · exact h
  · exact absurd b.2.2.1 (a.2.2.2 q b.1 h)
theorem per_mul {c : Nat → Nat} {n p : Nat} (h : Per c n p) : ∀ m r, r + m * p < n → c r = c (r + m * p)
  | 0, r, _ => by simp
  | m + 1, r, hr => by
    rw [Nat.succ_mul] at hr
    rw [per_mul h m r (by omega), h (r + m * p) (by omega), Nat.succ_mul, Nat.add_assoc]
/-- two beats that together are no longer than the word: the least goes into the other -/
theorem beat_dvd {c : Nat → Nat} {n p : Nat} (h : Beat c n p) : ∀ m q, q ≤ m → 1 ≤ q → p + q ≤ n → Per c n q → p ∣ q := by
  intro m
  induction m with
  | zero => intro q h1 h2; omega
  | succ m ih =>
    intro q h1 h2 h3 h4
    rcases Nat.lt_trichotomy q p with e | e | e
    · exact absurd h4 (h.2.2.2 q h2 e)
    · rw [e]
      exact Nat.dvd_refl _
    · have hp := h.2.2.1
      have h5 : Per c n (q - p) := fun t ht => by
        by_cases k : p ≤ t
        · have e1 := hp (t - p) (by omega)
          have e2 := h4 (t - p) (by omega)
          rw [show t - p + p = t by omega] at e1
          rw [← e1, e2]
          congr 1
          omega
        · have e1 := hp (t + (q - p)) (by omega)
          have e2 := h4 t (by omega)
          rw [e2, e1]
          congr 1
          omega
      have := ih (q - p) (by have := h.1; omega) (by omega) (by omega) h5
      have h6 := Nat.dvd_add this (Nat.dvd_refl p)
      rwa [show q - p + p = q by omega] at h6
/-! ### words one behind the other -/
theorem lt_app {a b : List Nat} {i : Nat} : lt_ (a ++ b) i = if i < a.length then lt_ a i else lt_ b (i - a.length) := by
  unfold lt_
  rw [List.getD_eq_getElem?_getD, List.getD_eq_getElem?_getD, List.getD_eq_getElem?_getD]
  split
  · rw [List.getElem?_append_left (by assumption)]
  · rw [List.getElem?_append_right (by omega)]
end RW

/-! M3: early words by places; the cutting; it is the only one. -/
namespace RW
/-- d is less than each of its endings, by places -/
def Lyn (d : Nat → Nat) (p : Nat) : Prop := ∀ i, 0 < i → i < p → ∃ t, i + t < p ∧ (∀ s, s < t → d s = d (i + s)) ∧ d t < d (i + t)
theorem Lyn.congr {d e : Nat → Nat} {p : Nat} (h : Lyn d p) (he : ∀ t, t < p → d t = e t) : Lyn e p := fun i h1 h2 => by
  obtain ⟨t, h3, h4, h5⟩ := h i h1 h2
  refine ⟨t, h3, fun s hs => ?_, ?_⟩
  · rw [← he s (by omega), ← he (i + s) (by omega)]
    exact h4 s hs
  · rw [← he t (by omega), ← he (i + t) (by omega)]
    exact h5
/-- what the walk of run_from keeps -/
structure DInv (d : Nat → Nat) (h j : Nat) : Prop where
  lt : h < j
  ly : Lyn d (j - h)
  pe : ∀ t, t < h → d t = d (t + (j - h))
theorem DInv.start (d : Nat → Nat) : DInv d 0 1 := ⟨by decide, fun i h1 h2 => by omega, fun t h => by omega⟩
theorem DInv.eq {d : Nat → Nat} {h j : Nat} (I : DInv d h j) (e : d h = d j) : DInv d (h + 1) (j + 1) := by
  have := I.lt
  have e1 : j + 1 - (h + 1) = j - h := by omega
  refine ⟨by omega, by rw [e1]; exact I.ly, fun t ht => ?_⟩
  rw [e1]
  by_cases c : t = h
  · rw [c, e]
    congr 1
    omega
  · exact I.pe t (by omega)
theorem DInv.less {d : Nat → Nat} {h j : Nat} (I : DInv d h j) (e : d h < d j) : DInv d 0 (j + 1) := by
  have hlt := I.lt
  obtain ⟨p, rfl⟩ : ∃ p, j = h + p := ⟨j - h, by omega⟩
  have ly := I.ly
  have pe := I.pe
  rw [show h + p - h = p by omega] at ly pe
  have hp : 0 < p := by omega
  have per : Per d (h + p) p := fun t ht => pe t (by omega)
  refine ⟨by omega, fun i h1 h2 => ?_, fun t ht => by omega⟩
  rw [Nat.sub_zero] at h2 ⊢
  have hdm := Nat.div_add_mod i p
  generalize hm : i / p = m at hdm
  generalize hs : i % p = s at hdm
  have hsp : s < p := by rw [← hs]; exact Nat.mod_lt _ hp
  rw [Nat.mul_comm] at hdm
  by_cases c : s = 0
  · subst c
    rw [Nat.add_zero] at hdm
    have m1 : 1 ≤ m := by
      rcases m with _ | m
      · omega
      · omega
    obtain ⟨m', rfl⟩ : ∃ m', m = m' + 1 := ⟨m - 1, by omega⟩
    rw [Nat.succ_mul] at hdm
    refine ⟨h + p - i, by omega, fun x hx => ?_, ?_⟩
    · have := per_mul per (m' + 1) x (by rw [Nat.succ_mul]; omega)
      rw [Nat.succ_mul] at this
      rw [this]
      congr 1
      omega
    · have := per_mul per m' (h + p - i) (by omega)
      rw [show h + p - i + m' * p = h by omega] at this
      rw [this, show i + (h + p - i) = h + p by omega]
      exact e
  · obtain ⟨t, h3, h4, h5⟩ := ly s (by omega) hsp
    have sh : ∀ x, i + x < h + p → d (i + x) = d (s + x) := fun x hx => by
      have := per_mul per m (s + x) (by omega)
      rw [this]
      congr 1
      omega
    by_cases c2 : i + t < h + p
    · refine ⟨t, by omega, fun x hx => ?_, ?_⟩
      · rw [sh x (by omega)]
        exact h4 x hx
      · rw [sh t c2]
        exact h5
    · have m1 : 1 ≤ m := by
        rcases m with _ | m
        · omega
        · omega
      obtain ⟨m', rfl⟩ : ∃ m', m = m' + 1 := ⟨m - 1, by omega⟩
      rw [Nat.succ_mul] at hdm
      refine ⟨h + p - i, by omega, fun x hx => ?_, ?_⟩
      · rw [sh x (by omega)]
        exact h4 x (by omega)
      · rw [show i + (h + p - i) = h + p by omega]
        have h6 : d (s + (h + p - i)) = d h := by
          have := per_mul per m' (s + (h + p - i)) (by omega)
          rw [this]
          congr 1
          omega
        have h7 : d (h + p - i) ≤ d (s + (h + p - i)) := by
          by_cases c3 : h + p - i = t
          · rw [c3]
            omega
          · exact Nat.le_of_eq (h4 _ (by omega))
        omega
/-- what run_from tells: from b on, pieces of pp letters, the last one beginning at b + h or ahead of it -/
structure RunOk (c : Nat → Nat) (n b pp h : Nat) : Prop where
  p1 : 1 ≤ pp
  le : b + (h + pp) ≤ n
  ly : Lyn (fun t => c (b + t)) pp
  pe : ∀ t, t < h → c (b + t) = c (b + (t + pp))
  en : b + (h + pp) = n ∨ c (b + (h + pp)) < c (b + h)
/-! ### early words as lists -/
def Lynd (w : List Nat) : Prop := w ≠ [] ∧ Lyn (lt_ w) w.length
theorem lt_iff' {a b : List Nat} : a < b ↔ (∃ i, i < a.length ∧ i < b.length ∧ (∀ j, j < i → lt_ a j = lt_ b j) ∧ lt_ a i < lt_ b i) ∨ (a.length < b.length ∧ ∀ j, j < a.length → lt_ a j = lt_ b j) := by
  have g : ∀ {l : List Nat} {i : Nat} (h : i < l.length), l[i] = lt_ l i := fun {l i} h => by
    have := lt_some h
    rw [List.getElem?_eq_getElem h] at this
    exact Option.some.inj this
  rw [List.lt_iff_exists]
  constructor
  · rintro (⟨h1, h2⟩ | ⟨i, h1, h2, h3, h4⟩)
    · refine .inr ⟨h2, fun j hj => ?_⟩
      have : lt_ a j = lt_ (b.take a.length) j := by rw [← h1]
      rw [this, lt_take hj]
    · refine .inl ⟨i, h1, h2, fun j hj => ?_, ?_⟩
      · rw [← g (by omega), ← g (by omega)]
        exact h3 j hj
      · rw [← g, ← g]
        exact h4
  · rintro (⟨i, h1, h2, h3, h4⟩ | ⟨h2, h3⟩)
    · refine .inr ⟨i, h1, h2, fun j hj => ?_, ?_⟩
      · rw [g, g]
        exact h3 j hj
      · rw [g, g]
        exact h4
    · refine .inl ⟨?_, h2⟩
      apply list_ext
      · rw [List.length_take]
        omega
      · intro i hi
        rw [lt_take hi]
        exact h3 i hi
theorem Lynd.drop_lt {w : List Nat} (h : Lynd w) {i : Nat} (h1 : 0 < i) (h2 : i < w.length) : w < w.drop i := by
  obtain ⟨t, h3, h4, h5⟩ := h.2 i h1 h2
  refine lt_iff'.mpr (.inl ⟨t, by omega, by rw [List.length_drop]; omega, fun s hs => ?_, ?_⟩)
  · rw [lt_drop]
    exact h4 s hs
  · rw [lt_drop]
    exact h5
theorem Lynd.rot_lt {w : List Nat} (h : Lynd w) {i : Nat} (h1 : 0 < i) (h2 : i < w.length) : w < w.drop i ++ w.take i := by
  obtain ⟨t, h3, h4, h5⟩ := h.2 i h1 h2
  refine lt_iff'.mpr (.inl ⟨t, by omega, by rw [List.length_append, List.length_drop]; omega, fun s hs => ?_, ?_⟩)
  · rw [lt_app, if_pos (by rw [List.length_drop]; omega), lt_drop]
    exact h4 s hs
  · rw [lt_app, if_pos (by rw [List.length_drop]; omega), lt_drop]
    exact h5
/-- less than all other turnings: less than all endings -/
theorem lynd_of_rot {w : List Nat} (h0 : w ≠ []) (h : ∀ i, 0 < i → i < w.length → w < w.drop i ++ w.take i) : Lynd w := by
  refine ⟨h0, fun i h1 h2 => ?_⟩
  rcases tri (lt_ w) (fun s => lt_ w (i + s)) (w.length - i) with e | ⟨t, e1, e2, e3⟩ | ⟨t, e1, e2, e3⟩
  · exfalso
    rcases lt_iff'.mp (h i h1 h2) with ⟨t, k1, k2, k3, k4⟩ | ⟨k1, _⟩
    · rw [lt_app] at k4
      rw [List.length_drop] at k4
      by_cases c : t < w.length - i
      · rw [if_pos c, lt_drop] at k4
        have := e t c
        omega
      · rw [if_neg c, lt_take (by omega)] at k4
        -- the turning at the border's length is less
        have m1 : 0 < w.length - i := by omega
        have hm := h (w.length - i) m1 (by omega)
        refine List.lt_asymm hm (lt_iff'.mpr (.inl ⟨t - (w.length - i), ?_, by omega, fun s hs => ?_, ?_⟩))
        · rw [List.length_append, List.length_drop]
          omega
        · rw [lt_app, if_pos (by rw [List.length_drop]; omega), lt_drop]
          have k5 := k3 (w.length - i + s) (by omega)
          rw [lt_app, if_neg (by rw [List.length_drop]; omega), List.length_drop, lt_take (by omega)] at k5
          rw [k5]
          congr 1
          omega
        · rw [lt_app, if_pos (by rw [List.length_drop]; omega), lt_drop, show w.length - i + (t - (w.length - i)) = t by omega]
          exact k4
    · rw [List.length_append, List.length_drop, List.length_take] at k1
      omega
  · exact ⟨t, by omega, e2, e3⟩
  · exfalso
    refine List.lt_asymm (h i h1 h2) (lt_iff'.mpr (.inl ⟨t, by rw [List.length_append, List.length_drop]; omega, by omega, fun s hs => ?_, ?_⟩))
    · rw [lt_app, if_pos (by rw [List.length_drop]; omega), lt_drop]
      exact e2 s hs
    · rw [lt_app, if_pos (by rw [List.length_drop]; omega), lt_drop]
      exact e3
/-! ### cuttings -/
/-- none less than the next one -/
def NI (ps : List (List Nat)) : Prop := ∀ k a b, ps[k]? = some a → ps[k + 1]? = some b → ¬ a < b
/-- ps is the cutting of l -/
structure CFL (l : List Nat) (ps : List (List Nat)) : Prop where
  fl : ps.flatten = l
  ly : ∀ w ∈ ps, Lynd w
  ni : NI ps
theorem NI.nil : NI [] := fun k a b h => by simp at h
theorem NI.app {ps : List (List Nat)} {v : List Nat} (h : NI ps) (hv : ∀ u, ps.getLast? = some u → ¬ u < v) : NI (ps ++ [v]) := fun k a b h1 h2 => by
  by_cases c : k + 1 < ps.length
  · rw [List.getElem?_append_left c] at h2
    rw [List.getElem?_append_left (by omega)] at h1
    exact h k a b h1 h2
  · have hl : k + 1 < (ps ++ [v]).length := (List.getElem?_eq_some_iff.mp h2).1
    rw [List.length_append, List.length_singleton] at hl
    have e : k + 1 = ps.length := by omega
    rw [e] at h2
    have : v = b := by simpa using h2
    subst this
    rw [List.getElem?_append_left (by omega)] at h1
    refine hv a ?_
    rw [List.getLast?_eq_getElem?, ← h1]
    congr 1
    omega
/-- the places at which the pieces begin -/
def places (ps : List (List Nat)) : List Nat := (List.range ps.length).map fun k => (ps.take k).flatten.length
theorem places_len (ps : List (List Nat)) : (places ps).length = ps.length := by unfold places; simp
theorem places_get {ps : List (List Nat)} {k : Nat} (h : k < ps.length) : (places ps)[k]? = some (ps.take k).flatten.length := by
  unfold places
  rw [List.getElem?_map, List.getElem?_range h]
  rfl
theorem places_app (ps : List (List Nat)) (v : List Nat) : places (ps ++ [v]) = places ps ++ [ps.flatten.length] := by
  apply List.ext_getElem?
  intro i
  by_cases c : i < ps.length
  · rw [List.getElem?_append_left (by rw [places_len]; exact c), places_get c, places_get (by rw [List.length_append]; omega), List.take_append_of_le_length (by omega)]
  · by_cases c2 : i = ps.length
    · subst c2
      rw [places_get (by simp), List.take_left, List.getElem?_append_right (by rw [places_len]; omega), places_len]
      simp
    · rw [List.getElem?_eq_none (by rw [places_len, List.length_append, List.length_singleton]; omega), List.getElem?_eq_none (by rw [List.length_append, places_len, List.length_singleton]; omega)]
/-- what the walk of cuts keeps -/
structure CInv (l : List Nat) (b : Nat) (ps : List (List Nat)) : Prop where
  le : b ≤ l.length
  fl : ps.flatten = l.take b
  ly : ∀ w ∈ ps, Lynd w
  ni : NI ps
theorem CInv.start (l : List Nat) : CInv l 0 [] := ⟨by omega, by simp, fun w h => by simp at h, NI.nil⟩
theorem CInv.len {l : List Nat} {b : Nat} {ps : List (List Nat)} (I : CInv l b ps) : ps.flatten.length = b := by
  rw [I.fl, List.length_take]
  have := I.le
  omega
theorem CInv.done {l : List Nat} {ps : List (List Nat)} (I : CInv l l.length ps) : CFL l ps := ⟨by rw [I.fl, List.take_length], I.ly, I.ni⟩
/-- the last piece is not less than what may come -/
def Nx (l : List Nat) (b : Nat) (ps : List (List Nat)) : Prop := ∀ u, ps.getLast? = some u → ∀ k, ¬ u < (l.drop b).take k
theorem CInv.app {l : List Nat} {b p : Nat} {ps : List (List Nat)} (I : CInv l b ps) (hp : 1 ≤ p) (hb : b + p ≤ l.length) (ly : Lyn (fun t => lt_ l (b + t)) p) (nx : ∀ u, ps.getLast? = some u → ¬ u < (l.drop b).take p) : CInv l (b + p) (ps ++ [(l.drop b).take p]) := by
  refine ⟨hb, ?_, fun w hw => ?_, I.ni.app nx⟩
  · rw [List.flatten_append, I.fl, List.flatten_singleton, List.take_add]
  · rcases List.mem_append.mp hw with hw | hw
    · exact I.ly w hw
    · rw [List.mem_singleton.mp hw]
      have hl : ((l.drop b).take p).length = p := by rw [List.length_take, List.length_drop]; omega
      refine ⟨fun z => ?_, ?_⟩
      · rw [z] at hl
        simp at hl
        omega
      · rw [hl]
        exact ly.congr fun t ht => by rw [lt_take ht, lt_drop]
/-- behind the run the rest begins with less -/
theorem run_next {l : List Nat} {b pp h q : Nat} (R : RunOk (lt_ l) l.length b pp h) (hq : h < q * pp) (hq2 : q * pp ≤ h + pp) (k : Nat) : ¬ (l.drop b).take pp < (l.drop (b + q * pp)).take k := by
  have hle := R.le
  have hp := R.p1
  obtain ⟨q', rfl⟩ : ∃ q', q = q' + 1 := ⟨q - 1, by
    rcases q with _ | q
    · omega
    · omega⟩
  rw [Nat.succ_mul] at hq hq2 ⊢
  have per : Per (fun t => lt_ l (b + t)) (h + pp) pp := fun t ht => R.pe t (by omega)
  have hul : ((l.drop b).take pp).length = pp := by rw [List.length_take, List.length_drop]; omega
  have hvl : ((l.drop (b + (q' * pp + pp))).take k).length = min k (l.length - (b + (q' * pp + pp))) := by rw [List.length_take, List.length_drop]
  have sh : ∀ t, q' * pp + pp + t < h + pp → lt_ l (b + (q' * pp + pp) + t) = lt_ l (b + t) := fun t ht => by
    have := per_mul per (q' + 1) t (by rw [Nat.succ_mul]; omega)
    simp only [Nat.succ_mul] at this
    rw [this]
    congr 1
    omega
  intro hlt
  have key : ∀ i, i < k → i < l.length - (b + (q' * pp + pp)) → i < pp → (∀ j, j < i → lt_ l (b + j) = lt_ l (b + (q' * pp + pp) + j)) → ¬ lt_ l (b + i) < lt_ l (b + (q' * pp + pp) + i) := by
    intro i h1 h2 h3 h4 h5
    rcases Nat.lt_trichotomy (q' * pp + pp + i) (h + pp) with c | c | c
    · have := sh i c
      omega
    · rcases R.en with e | e
      · omega
      · have h6 := per_mul per q' i (by omega)
        rw [show i + q' * pp = h by omega] at h6
        rw [h6, show b + (q' * pp + pp) + i = b + (h + pp) by omega] at h5
        omega
    · rcases R.en with e | e
      · omega
      · have h6 := per_mul per q' (h - q' * pp) (by omega)
        rw [show h - q' * pp + q' * pp = h by omega] at h6
        have h7 := h4 (h - q' * pp) (by omega)
        rw [h6, show b + (q' * pp + pp) + (h - q' * pp) = b + (h + pp) by omega] at h7
        omega
  rcases lt_iff'.mp hlt with ⟨i, k1, k2, k3, k4⟩ | ⟨k1, k2⟩
  · rw [hul] at k1
    rw [hvl] at k2
    rw [lt_take k1, lt_drop, lt_take (by omega), lt_drop] at k4
    refine key i (by omega) (by omega) k1 (fun j hj => ?_) k4
    have := k3 j hj
    rw [lt_take (by omega), lt_drop, lt_take (by omega), lt_drop] at this
    exact this
  · rw [hul, hvl] at k1
    rw [hul] at k2
    rcases R.en with e | e
    · omega
    · have h6 := per_mul per q' (h - q' * pp) (by omega)
      rw [show h - q' * pp + q' * pp = h by omega] at h6
      have h7 := k2 (h - q' * pp) (by omega)
      rw [lt_take (by omega), lt_drop, lt_take (by omega), lt_drop, h6, show b + (q' * pp + pp) + (h - q' * pp) = b + (h + pp) by omega] at h7
      omega
/-! ### the cutting is the only one -/
theorem NI.last_le {ps : List (List Nat)} (h : NI ps) {z : List Nat} (hz : ps.getLast? = some z) : ∀ (k : Nat) (a : List Nat), ps[k]? = some a → z ≤ a := by
  have hlen : 0 < ps.length := by
    cases ps with
    | nil => simp at hz
    | cons x r => simp
  have hz' : ps[ps.length - 1]? = some z := by rw [← List.getLast?_eq_getElem?]; exact hz
  have go : ∀ (m k : Nat) (a : List Nat), m + k = ps.length - 1 → ps[k]? = some a → z ≤ a := by
    intro m
    induction m with
    | zero =>
      intro k a e ha
      rw [Nat.zero_add] at e
      rw [e, hz'] at ha
      rw [Option.some.inj ha]
      exact List.le_refl _
    | succ m ih =>
      intro k a e ha
      have hk : k + 1 < ps.length := by omega
      have hb := ih (k + 1) ps[k + 1] (by omega) (List.getElem?_eq_getElem hk)
      have := h k a _ ha (List.getElem?_eq_getElem hk)
      exact List.le_trans hb (List.not_lt.mp this)
  intro k a ha
  have hk := (List.getElem?_eq_some_iff.mp ha).1
  exact go (ps.length - 1 - k) k a (by omega) ha
/-- the last piece is the least of all endings -/
theorem last_least {z : List Nat} : ∀ {ps : List (List Nat)}, (∀ w ∈ ps, Lynd w) → (∀ w ∈ ps, z ≤ w) → ∀ i, i < ps.flatten.length → z ≤ ps.flatten.drop i
  | [], _, _, i, hi => by simp at hi
  | w :: r, hl, hz, i, hi => by
    rw [List.flatten_cons] at hi ⊢
    rw [List.length_append] at hi
    by_cases c : i < w.length
    · rw [List.drop_append_of_le_length (by omega)]
      refine List.le_trans (hz w List.mem_cons_self) (List.le_trans (l₂ := w.drop i) ?_ List.le_append_left)
      by_cases c2 : i = 0
      · subst c2
        rw [List.drop_zero]
        exact List.le_refl _
      · exact List.not_lt.mp (List.lt_asymm ((hl w List.mem_cons_self).drop_lt (by omega) c))
    · rw [List.drop_append, List.drop_of_length_le (by omega), List.nil_append]
      exact last_least (fun v hv => hl v (List.mem_cons_of_mem _ hv)) (fun v hv => hz v (List.mem_cons_of_mem _ hv)) (i - w.length) (by omega)
theorem CFL.last {l : List Nat} {ps : List (List Nat)} (h : CFL l ps) {z : List Nat} (hz : ps.getLast? = some z) : ∀ i, i < l.length → z ≤ l.drop i := by
  intro i hi
  have := h.fl
  subst this
  refine last_least h.ly (fun w hw => ?_) i hi
  obtain ⟨k, hk⟩ := List.getElem?_of_mem hw
  exact NI.last_le h.ni hz k w hk
theorem CFL.front {l : List Nat} {ps : List (List Nat)} {z : List Nat} (h : CFL l (ps ++ [z])) : ∃ x, l = x ++ z ∧ CFL x ps := by
  refine ⟨ps.flatten, by rw [← h.fl]; simp, rfl, fun w hw => h.ly w (List.mem_append_left _ hw), fun k a b h1 h2 => ?_⟩
  have hk := (List.getElem?_eq_some_iff.mp h2).1
  refine h.ni k a b ?_ ?_
  · rw [List.getElem?_append_left (by omega)]
    exact h1
  · rw [List.getElem?_append_left hk]
    exact h2
theorem CFL.uniq : ∀ (m : Nat) {l : List Nat} {ps qs : List (List Nat)}, ps.length ≤ m → CFL l ps → CFL l qs → ps = qs := by
  intro m
  induction m with
  | zero =>
    intro l ps qs hm h1 h2
    obtain rfl : ps = [] := by
      cases ps with
      | nil => rfl
      | cons x r => simp at hm
    have : l = [] := by rw [← h1.fl]; rfl
    subst this
    cases qs with
    | nil => rfl
    | cons x r =>
      have h3 := h2.fl
      rw [List.flatten_cons] at h3
      exact absurd (List.append_eq_nil_iff.mp h3).1 (h2.ly x List.mem_cons_self).1
  | succ m ih =>
    intro l ps qs hm h1 h2
    rcases List.eq_nil_or_concat ps with rfl | ⟨ps', a, rfl⟩
    · exact ih (by simp) h1 h2
    rcases List.eq_nil_or_concat qs with rfl | ⟨qs', b, rfl⟩
    · have : l = [] := by rw [← h2.fl]; rfl
      subst this
      have h3 := h1.fl
      simp at h3
      exact absurd h3.2 (h1.ly a (by simp)).1
    simp only [List.concat_eq_append] at hm h1 h2 ⊢
    obtain ⟨x, e1, k1⟩ := CFL.front h1
    obtain ⟨y, e2, k2⟩ := CFL.front h2
    have ha : a ≠ [] := (h1.ly a (by simp)).1
    have hb : b ≠ [] := (h2.ly b (by simp)).1
    have la : 0 < a.length := List.length_pos_iff.mpr ha
    have lb : 0 < b.length := List.length_pos_iff.mpr hb
    have s1 : l.drop x.length = a := by rw [e1]; simp
    have s2 : l.drop y.length = b := by rw [e2]; simp
    have hlx : l.length = x.length + a.length := by rw [e1, List.length_append]
    have hly : l.length = y.length + b.length := by rw [e2, List.length_append]
    have l1 := h1.last (z := a) (by simp) y.length (by omega)
    have l2 := h2.last (z := b) (by simp) x.length (by omega)
    rw [s2] at l1
    rw [s1] at l2
    have hab : a = b := List.le_antisymm l1 l2
    subst hab
    have hxy : x = y := List.append_cancel_right (e1.symm.trans e2)
    subst hxy
    rw [ih (by rw [List.length_append, List.length_singleton] at hm; omega) k1 k2]
theorem CFL.same {l : List Nat} {ps qs : List (List Nat)} (h1 : CFL l ps) (h2 : CFL l qs) : ps = qs := CFL.uniq _ (Nat.le_refl _) h1 h2
/-- a word is early just where it is its own cutting -/
theorem CFL.one {l : List Nat} (h : Lynd l) : CFL l [l] := ⟨by simp, fun w hw => by rw [List.mem_singleton.mp hw]; exact h, fun k a b h1 h2 => by simp at h2⟩
theorem places_zero {ps : List (List Nat)} (h : ∀ w ∈ ps, w ≠ []) : places ps = [0] ↔ ps.length = 1 := by
  constructor
  · intro e
    rw [← places_len, e]
    rfl
  · intro e
    cases ps with
    | nil => simp at e
    | cons x r =>
      cases r with
      | nil => rfl
      | cons y r => simp at e
end RW

/-! M6: the next early word. -/
namespace RW
/-- an early word of the signs, no longer than N -/
structure LW (S : List Nat) (N : Nat) (v : List Nat) : Prop where
  ly : Lynd v
  si : ∀ c ∈ v, c ∈ S
  le : v.length ≤ N
theorem Lynd.pos {v : List Nat} (h : Lynd v) : 0 < v.length := List.length_pos_iff.mpr h.1
theorem lt_mem {v : List Nat} {i : Nat} (h : i < v.length) : lt_ v i ∈ v := List.mem_of_getElem? (lt_some h)
/-- what is greater than w departs upwards from w again and again -/
theorem depart {w v : List Nat} (hw : Lynd w) (hv : Lynd v) (h : w < v) : ∃ i, i < v.length ∧ (∀ j, j < i → lt_ v j = lt_ w (j % w.length)) ∧ lt_ w (i % w.length) < lt_ v i := by
  have hp := hw.pos
  rcases lt_iff'.mp h with ⟨i, h1, h2, h3, h4⟩ | ⟨h1, h2⟩
  · refine ⟨i, h2, fun j hj => ?_, ?_⟩
    · rw [Nat.mod_eq_of_lt (by omega)]
      exact (h3 j hj).symm
    · rw [Nat.mod_eq_of_lt h1]
      exact h4
  · have hd : ∀ j, j < w.length → lt_ v j = lt_ w (j % w.length) := fun j hj => by
      rw [Nat.mod_eq_of_lt hj]
      exact (h2 j hj).symm
    obtain ⟨t', k1, k2, k3⟩ := hv.2 w.length hp h1
    rcases tri (lt_ v) (fun j => lt_ w (j % w.length)) v.length with e | ⟨t, e1, e2, e3⟩ | ⟨t, e1, e2, e3⟩
    · exfalso
      have a1 := e (w.length + t') k1
      have a2 := e t' (by omega)
      simp only [Nat.add_mod_left] at a1
      omega
    · exfalso
      dsimp only at e3
      have ht : w.length ≤ t := by
        refine Nat.le_of_not_lt fun z => ?_
        have := hd t z
        omega
      obtain ⟨u, rfl⟩ : ∃ u, t = w.length + u := ⟨t - w.length, by omega⟩
      simp only [Nat.add_mod_left] at e3
      have a3 : lt_ v u = lt_ w (u % w.length) := e2 u (by omega)
      rcases Nat.lt_trichotomy t' u with c | c | c
      · have a1 : lt_ v (w.length + t') = lt_ w ((w.length + t') % w.length) := e2 (w.length + t') (by omega)
        have a2 : lt_ v t' = lt_ w (t' % w.length) := e2 t' (by omega)
        rw [Nat.add_mod_left] at a1
        omega
      · subst c
        omega
      · have := k2 u c
        omega
    · exact ⟨t, e1, fun j hj => (e2 j hj).symm, e3⟩
/-- a beginning with its last letter raised is early -/
theorem raise_prefix {d e : Nat → Nat} {p m : Nat} (h : Lyn d p) (h1 : 1 ≤ m) (hm : m ≤ p) (he : ∀ t, t < m - 1 → e t = d t) (hr : d (m - 1) < e (m - 1)) : Lyn e m := fun i hi hi2 => by
  obtain ⟨t, k1, k2, k3⟩ := h i hi (by omega)
  by_cases c : i + t < m - 1
  · exact ⟨t, by omega, fun s hs => by rw [he s (by omega), he (i + s) (by omega)]; exact k2 s hs, by rw [he t (by omega), he (i + t) (by omega)]; exact k3⟩
  · refine ⟨m - 1 - i, by omega, fun s hs => by rw [he s (by omega), he (i + s) (by omega)]; exact k2 s (by omega), ?_⟩
    rw [show i + (m - 1 - i) = m - 1 by omega, he (m - 1 - i) (by omega)]
    have h7 : d (m - 1 - i) ≤ d (m - 1) := by
      by_cases c3 : m - 1 - i = t
      · have : i + t = m - 1 := by omega
        rw [c3, ← this]
        omega
      · have := k2 (m - 1 - i) (by omega)
        rw [show i + (m - 1 - i) = m - 1 by omega] at this
        omega
    omega
/-- w filled up to N, z its greatest letter gone from the end: m letters are left -/
structure Strip (w : List Nat) (N z m : Nat) : Prop where
  le : m ≤ N
  zz : ∀ t, m ≤ t → t < N → lt_ w (t % w.length) = z
  ne : m = 0 ∨ lt_ w ((m - 1) % w.length) ≠ z
/-- the next one: m - 1 letters of w again and again, then the next sign -/
structure Nxt (S : List Nat) (w : List Nat) (N z m c' : Nat) (y : List Nat) : Prop where
  st : Strip w N z m
  m1 : 1 ≤ m
  cs : c' ∈ S
  lt : lt_ w ((m - 1) % w.length) < c'
  nx : ∀ e ∈ S, lt_ w ((m - 1) % w.length) < e → c' ≤ e
  len : y.length = m
  eq : ∀ t, t < m - 1 → lt_ y t = lt_ w (t % w.length)
  la : lt_ y (m - 1) = c'
theorem Nxt.lw {S w y : List Nat} {N z m c' : Nat} (hw : LW S N w) (n : Nxt S w N z m c' y) : LW S N y := by
  have hp := hw.ly.pos
  have m1 := n.m1
  refine ⟨⟨fun r => ?_, ?_⟩, fun c hc => ?_, by rw [n.len]; exact n.st.le⟩
  · have := n.len
    rw [r] at this
    simp at this
    omega
  · rw [n.len]
    by_cases c : w.length ≤ m - 1
    · have hmod : ∀ t, (t + w.length) % w.length = t % w.length := fun t => Nat.add_mod_right ..
      have D : DInv (lt_ y) (m - 1 - w.length) (m - 1) := by
        refine ⟨by omega, ?_, fun t ht => ?_⟩
        · rw [show m - 1 - (m - 1 - w.length) = w.length by omega]
          refine hw.ly.2.congr fun t ht => ?_
          rw [n.eq t (by omega), Nat.mod_eq_of_lt ht]
        · rw [show m - 1 - (m - 1 - w.length) = w.length by omega, n.eq t (by omega), n.eq (t + w.length) (by omega), hmod]
      have := D.less (by
        rw [n.la, n.eq (m - 1 - w.length) (by omega)]
        have h1 := n.lt
        have h2 := hmod (m - 1 - w.length)
        rw [show m - 1 - w.length + w.length = m - 1 by omega] at h2
        rw [← h2]
        exact h1)
      have h3 := this.ly
      rw [show m - 1 + 1 - 0 = m by omega] at h3
      exact h3
    · refine raise_prefix (d := lt_ w) hw.ly.2 m1 (by omega) (fun t ht => ?_) ?_
      · rw [n.eq t ht, Nat.mod_eq_of_lt (by omega)]
      · rw [n.la]
        have := n.lt
        rwa [Nat.mod_eq_of_lt (by omega)] at this
  · obtain ⟨i, hi⟩ := List.getElem?_of_mem hc
    have hil := (List.getElem?_eq_some_iff.mp hi).1
    have e : lt_ y i = c := lt_get hi
    rw [n.len] at hil
    by_cases c2 : i = m - 1
    · rw [c2, n.la] at e
      rw [← e]
      exact n.cs
    · rw [n.eq i (by omega)] at e
      rw [← e]
      exact hw.si _ (lt_mem (Nat.mod_lt _ hp))
theorem Nxt.up {S w y : List Nat} {N z m c' : Nat} (hw : LW S N w) (n : Nxt S w N z m c' y) : w < y := by
  have hp := hw.ly.pos
  have m1 := n.m1
  by_cases c : w.length ≤ m - 1
  · refine lt_iff'.mpr (.inr ⟨by rw [n.len]; omega, fun j hj => ?_⟩)
    rw [n.eq j (by omega), Nat.mod_eq_of_lt hj]
  · refine lt_iff'.mpr (.inl ⟨m - 1, by omega, by rw [n.len]; omega, fun j hj => ?_, ?_⟩)
    · rw [n.eq j hj, Nat.mod_eq_of_lt (by omega)]
    · rw [n.la]
      have := n.lt
      rwa [Nat.mod_eq_of_lt (by omega)] at this
theorem Nxt.least {S w y v : List Nat} {N z m c' : Nat} (hz : ∀ c ∈ S, c ≤ z) (hw : LW S N w) (n : Nxt S w N z m c' y) (hv : LW S N v) (h : w < v) : ¬ v < y := by
  have m1 := n.m1
  obtain ⟨i, h1, h2, h3⟩ := depart hw.ly hv.ly h
  have hvi := hz _ (hv.si _ (lt_mem h1))
  have hle := hv.le
  have him : i < m := by
    refine Nat.lt_of_not_le fun r => ?_
    have := n.st.zz i r (by omega)
    omega
  by_cases c : i = m - 1
  · subst c
    have h4 := n.nx _ (hv.si _ (lt_mem h1)) h3
    by_cases c2 : c' = lt_ v (m - 1)
    · intro r
      rcases lt_iff'.mp r with ⟨k, k1, k2, k3, k4⟩ | ⟨k1, k2⟩
      · rw [n.len] at k2
        by_cases c3 : k = m - 1
        · subst c3
          rw [n.la] at k4
          omega
        · rw [n.eq k (by omega), h2 k (by omega)] at k4
          omega
      · rw [n.len] at k1
        omega
    · refine List.lt_asymm (lt_iff'.mpr (.inl ⟨m - 1, by rw [n.len]; omega, h1, fun j hj => ?_, ?_⟩))
      · rw [n.eq j hj, h2 j hj]
      · rw [n.la]
        omega
  · refine List.lt_asymm (lt_iff'.mpr (.inl ⟨i, by rw [n.len]; omega, h1, fun j hj => ?_, ?_⟩))
    · rw [n.eq j (by omega), h2 j hj]
    · rw [n.eq i (by omega)]
      exact h3
/-- nothing left: the last one -/
theorem Strip.last {S w v : List Nat} {N z : Nat} (hz : ∀ c ∈ S, c ≤ z) (hw : LW S N w) (st : Strip w N z 0) (hv : LW S N v) : ¬ w < v := fun h => by
  obtain ⟨i, h1, h2, h3⟩ := depart hw.ly hv.ly h
  have := hz _ (hv.si _ (lt_mem h1))
  have := st.zz i (by omega) (by have := hv.le; omega)
  omega
theorem lynd_one (c : Nat) : Lynd [c] := ⟨by simp, fun i h1 h2 => by simp at h2; omega⟩
/-- the least sign alone is the least of all -/
theorem first_least {S v : List Nat} {N a : Nat} (ha : ∀ c ∈ S, a ≤ c) (hv : LW S N v) : ¬ v < [a] := fun h => by
  have hp := hv.ly.pos
  rcases lt_iff'.mp h with ⟨k, k1, k2, k3, k4⟩ | ⟨k1, k2⟩
  · have hk : k = 0 := by simp at k2; omega
    subst hk
    have := ha _ (hv.si _ (lt_mem hp))
    have e : lt_ [a] 0 = a := rfl
    omega
  · rw [List.length_singleton] at k1
    omega
/-! ### all of them in order -/
/-- all early words of the signs and at most a length, rising -/
structure AllIn (S : List Nat) (N : Nat) (A : List (List Nat)) : Prop where
  up : A.Pairwise fun a b => a < b
  mem : ∀ v, v ∈ A ↔ LW S N v
theorem AllIn.nodup {S : List Nat} {N : Nat} {A : List (List Nat)} (h : AllIn S N A) : A.Pairwise fun a b => a ≠ b := h.up.imp fun h e => by
  subst e
  exact List.lt_irrefl _ h
/-- two rising lists of the same ones are alike -/
theorem rising_uniq : ∀ {A B : List (List Nat)}, A.Pairwise (fun a b => a < b) → B.Pairwise (fun a b => a < b) → (∀ v, v ∈ A ↔ v ∈ B) → A = B
  | [], [], _, _, _ => rfl
  | [], b :: B, _, _, h => absurd ((h b).mpr List.mem_cons_self) (by simp)
  | a :: A, [], _, _, h => absurd ((h a).mp List.mem_cons_self) (by simp)
  | a :: A, b :: B, hA, hB, h => by
    rw [List.pairwise_cons] at hA hB
    have e : a = b := by
      rcases List.mem_cons.mp ((h a).mp List.mem_cons_self) with r | r
      · exact r
      · rcases List.mem_cons.mp ((h b).mpr List.mem_cons_self) with r2 | r2
        · exact r2.symm
        · exact absurd (hA.1 b r2) (List.lt_asymm (hB.1 a r))
    subst e
    rw [rising_uniq hA.2 hB.2 fun v => ?_]
    constructor
    · intro hv
      rcases List.mem_cons.mp ((h v).mp (List.mem_cons_of_mem _ hv)) with r | r
      · subst r
        exact absurd (hA.1 v hv) (List.lt_irrefl _)
      · exact r
    · intro hv
      rcases List.mem_cons.mp ((h v).mpr (List.mem_cons_of_mem _ hv)) with r | r
      · subst r
        exact absurd (hB.1 v hv) (List.lt_irrefl _)
      · exact r
theorem AllIn.uniq {S : List Nat} {N : Nat} {A B : List (List Nat)} (a : AllIn S N A) (b : AllIn S N B) : A = B := rising_uniq a.up b.up fun v => (a.mem v).trans (b.mem v).symm
/-- behind the k-th comes the next one -/
theorem AllIn.next {S : List Nat} {N : Nat} {A : List (List Nat)} (h : AllIn S N A) {k : Nat} {w y : List Nat} (hk : A[k]? = some w) (hy : LW S N y) (up : w < y) (le : ∀ v, LW S N v → w < v → ¬ v < y) : A[k + 1]? = some y := by
  obtain ⟨j, hj⟩ := List.getElem?_of_mem ((h.mem y).mpr hy)
  have hkl := (List.getElem?_eq_some_iff.mp hk).1
  have hjl := (List.getElem?_eq_some_iff.mp hj).1
  have ord : ∀ (i l : Nat) (a b : List Nat), A[i]? = some a → A[l]? = some b → i < l → a < b := fun i l a b hi hl hil => by
    obtain ⟨h1, rfl⟩ := List.getElem?_eq_some_iff.mp hi
    obtain ⟨h2, rfl⟩ := List.getElem?_eq_some_iff.mp hl
    exact List.pairwise_iff_getElem.mp h.up i l h1 h2 hil
  rcases Nat.lt_trichotomy j (k + 1) with c | c | c
  · exfalso
    by_cases e : j = k
    · subst e
      rw [hk] at hj
      rw [Option.some.inj hj] at up
      exact List.lt_irrefl _ up
    · exact List.lt_asymm up (ord j k _ _ hj hk (by omega))
  · rw [← c]
    exact hj
  · exfalso
    have hb : A[k + 1]? = some A[k + 1] := List.getElem?_eq_getElem (by omega)
    exact le _ ((h.mem _).mp (List.getElem_mem (by omega))) (ord k (k + 1) _ _ hk hb (by omega)) (ord (k + 1) j _ _ hb hj c)
theorem AllIn.end_ {S : List Nat} {N : Nat} {A : List (List Nat)} (h : AllIn S N A) {k : Nat} {w : List Nat} (hk : A[k]? = some w) (la : ∀ v, LW S N v → ¬ w < v) : A.length = k + 1 := by
  have hkl := (List.getElem?_eq_some_iff.mp hk).1
  refine Nat.le_antisymm (Nat.le_of_not_lt fun c => ?_) hkl
  obtain ⟨h1, rfl⟩ := List.getElem?_eq_some_iff.mp hk
  exact la _ ((h.mem _).mp (List.getElem_mem (by omega : k + 1 < A.length))) (List.pairwise_iff_getElem.mp h.up k (k + 1) h1 (by omega) (by omega))
theorem AllIn.first {S : List Nat} {N a : Nat} {A : List (List Nat)} (h : AllIn S N A) (hN : 1 ≤ N) (haS : a ∈ S) (ha : ∀ c ∈ S, a ≤ c) : A[0]? = some [a] := by
  have hl : LW S N [a] := ⟨lynd_one a, fun c hc => by rw [List.mem_singleton.mp hc]; exact haS, by simpa using hN⟩
  obtain ⟨j, hj⟩ := List.getElem?_of_mem ((h.mem _).mpr hl)
  by_cases c : j = 0
  · rw [c] at hj
    exact hj
  · exfalso
    obtain ⟨h1, e⟩ := List.getElem?_eq_some_iff.mp hj
    have := List.pairwise_iff_getElem.mp h.up 0 j (by omega) h1 (by omega)
    rw [e] at this
    exact first_least ha ((h.mem _).mp (List.getElem_mem (by omega : 0 < A.length))) this
end RW

/-! P7: borders, beats, roots. -/
namespace RW
open PySem PySem.Spec PyProof.Rows L2
open Evl (Ex ex_l ex_t ex_rd fresh_back)
local macro_rules | `(tactic| walk_at "x") => `(tactic| first
  | ((with_reducible apply x_var); exact rfl)
  | with_reducible refine x_c ?_
  | with_reducible refine x_op ?_
  | with_reducible refine x_un ?_
  | with_reducible refine x_neg ?_
  | with_reducible refine x_addI ?_
  | with_reducible refine x_subI ?_
  | with_reducible refine x_ltI ?_
  | with_reducible refine x_ltS ?_
  | with_reducible refine x_leI ?_
  | with_reducible refine x_leS ?_
  | with_reducible refine x_gtI ?_
  | with_reducible refine x_gtS ?_
  | with_reducible refine x_geI ?_
  | with_reducible refine x_eqI ?_
  | with_reducible refine x_eqS ?_
  | with_reducible refine x_eqB ?_
  | with_reducible refine x_neI ?_
  | with_reducible refine x_neS ?_
  | with_reducible refine x_isN ?_
  | with_reducible refine x_isB ?_
  | with_reducible refine x_isNotN ?_
  | with_reducible refine x_isNotB ?_
  | with_reducible refine x_inS ?_
  | with_reducible refine x_sl ?_
  | with_reducible refine x_part ?_
  | with_reducible refine x_nopart ?_
  | with_reducible refine x_rev ?_
  | with_reducible refine x_nil ?_
  | with_reducible refine x_cons ?_
  | with_reducible refine x_lst0 ?_
  | with_reducible refine x_tup0 ?_
  | with_reducible refine x_call0 ?_
  | with_reducible refine x_callS ?_
  | with_reducible refine x_cb ?_
  | with_reducible refine x_m1 ?_
  | with_reducible refine x_m1s ?_
  | with_reducible refine x_bm ?_
  | with_reducible refine x_bm0 ?_
  | with_reducible refine x_tyS ?_
  | with_reducible refine x_max2 ?_
  | with_reducible refine x_min2 ?_
  | with_reducible refine x_seq ?_
  | with_reducible refine x_asg ?_
  | with_reducible refine x_asgG ?_
  | with_reducible refine x_ret ?_
  | with_reducible refine x_retN ?_
  | with_reducible refine x_if ?_
  | with_reducible refine x_next ?_
  | with_reducible refine x_drop ?_
  | with_reducible refine x_break ?_
  | with_reducible refine x_cont ?_
  | with_reducible refine x_par ?_
  | with_reducible refine x_par2 ?_
  | ((with_reducible apply x_aug); exact rfl)
  | with_reducible refine x_ip ?_
  | with_reducible refine x_test ?_
  | with_reducible refine x_tB ?_
  | with_reducible refine x_bl ?_
  | with_reducible refine x_and ?_
  | with_reducible refine x_or ?_
  | with_reducible refine x_not ?_
  | with_reducible refine x_andV ?_
  | with_reducible refine x_orV ?_
  | with_reducible refine x_notV ?_
  | with_reducible refine x_ifV ?_
  | with_reducible refine x_chain ?_
  | with_reducible refine x_intA ?_
  | with_reducible refine x_strA ?_
  | with_reducible refine x_yes ?_
  | with_reducible refine iteT ?_
  | with_reducible refine iteF ?_
  | with_reducible refine x_forRng1 ?_
  | with_reducible refine x_forRng2 ?_
  | with_reducible refine x_forLst ?_
  | with_reducible refine x_forU ?_
  | with_reducible refine x_lcRng1 ?_
  | with_reducible refine x_lcRng2 ?_
  | with_reducible refine x_lcLst ?_
  | with_reducible refine x_lcU ?_
  | with_reducible refine x_uS ?_
  | with_reducible refine x_gcons ?_
  | with_reducible refine x_gnil ?_
  -- with side conditions
  | ((with_reducible refine x_addS ?hs ?_); (case hs => walk_at "sz"))
  | ((with_reducible refine x_divI ?hs ?ht ?_); (case hs => walk_at "sz"); (case ht => walk_at "sz"))
  | ((with_reducible refine x_modI ?hs ?_); (case hs => walk_at "sz"))
  | ((with_reducible refine x_mulI ?hs ?_); (case hs => walk_at "sz"))
  | ((with_reducible refine x_lenS ?hs ?_); (case hs => walk_at "sz"))
  | ((with_reducible refine x_slSlo ?hs ?_); (case hs => walk_at "sz"))
  | ((with_reducible refine x_slShi ?hs ?_); (case hs => walk_at "sz"))
  | ((with_reducible refine x_slSlohi ?hs ?_); (case hs => walk_at "sz"))
  | ((with_reducible refine x_slShiNeg ?hs ?_); (case hs => walk_at "sz"))
  | ((with_reducible refine x_slSloI ?ht ?hs ?_); (case ht => walk_at "sz"); (case hs => walk_at "sz"))
  | ((with_reducible refine x_slShiI ?ht ?hs ?_); (case ht => walk_at "sz"); (case hs => walk_at "sz"))
  | ((with_reducible refine x_rng1 ?hs ?ht ?_); (case hs => walk_at "sz"); (case ht => walk_at "sz"))
  | ((with_reducible refine x_rng2 ?hs ?_); (case hs => walk_at "sz"))
  | ((with_reducible refine x_newL ?hs ?_); (case hs => walk_at "sz"); intro px Hx npx ex hpx)
  | ((with_reducible refine x_newT ?hs ?_); (case hs => walk_at "sz"); intro px Hx npx ex hpx)
  | ((with_reducible apply x_lenL); (walk_at "hp"))
  | ((with_reducible apply x_refL); (walk_at "hp"))
  | ((with_reducible apply x_uL); (walk_at "hp"))
  | ((with_reducible apply x_tyL); (walk_at "hp"))
  )
local macro_rules | `(tactic| walk_at "xs") => `(tactic| repeat (walk_at "x"))
/- sizes, bounds -/
local macro_rules | `(tactic| walk_at "sz") => `(tactic| first
  | with_reducible assumption
  | (rw [sizeLine_eq]; first | omega | (simp only [List.length_cons, List.length_nil, List.length_append, List.length_map, List.length_reverse, List.length_range, List.length_drop, List.length_take, List.length_dropLast]; omega))
  | omega
  | (unfold CMul; omega)
  | (simp only [List.length_cons, List.length_nil, List.length_append, List.length_map, List.length_reverse, List.length_range, List.length_drop, List.length_take, List.length_dropLast]; omega))
/- what stands in the heap -/
local macro_rules | `(tactic| walk_at "hp") => `(tactic| first
  | assumption
  | ((with_reducible apply SqL.of); walk_at "hp")
  | ((with_reducible apply SqT.of); walk_at "hp")
  | ((with_reducible apply Ex.at_); assumption; walk_at "hp")
  | ((with_reducible apply ex_l); assumption; walk_at "hp")
  | ((with_reducible apply ex_t); assumption; walk_at "hp"))
local macro_rules | `(tactic| walk_at "ex") => `(tactic| first
  | assumption
  | exact Ex.rfl'
  | (refine Ex.trs ?_ (by assumption); walk_at "ex"))
/- an item at a place within: what is left speaks of the item -/
local macro_rules | `(tactic| walk_at "ix") => `(tactic| ((with_reducible apply x_ixLm); (walk_at "hp"); (walk_at "sz"); (walk_at "sz")))
local macro_rules | `(tactic| walk_at "is") => `(tactic| ((with_reducible apply x_ixSm); (walk_at "sz"); (walk_at "sz"); (walk_at "sz")))

local macro_rules | `(tactic| walk_at "y") => `(tactic| repeat (walk_at "x"))
theorem rep_zero (u : List Nat) : rep 0 u = [] := rfl
theorem rep_succ (k : Nat) (u : List Nat) : rep (k + 1) u = u ++ rep k u := by
  unfold rep
  rw [List.replicate_succ, List.flatten_cons]
theorem lt_rep {u : List Nat} : ∀ (k i : Nat), i < k * u.length → lt_ (rep k u) i = lt_ u (i % u.length)
  | 0, i, h => by omega
  | k + 1, i, h => by
    rw [rep_succ, lt_app]
    split
    · rw [Nat.mod_eq_of_lt (by assumption)]
    · rw [Nat.succ_mul] at h
      rw [lt_rep k _ (by omega)]
      rename_i h2
      rw [Nat.mod_eq_sub_mod (by omega : i ≥ u.length)]
theorem rep_per {l : List Nat} {p k : Nat} (hp : 1 ≤ p) (hn : p * k = l.length) (hk : 1 ≤ k) : rep k (l.take p) = l ↔ Per (lt_ l) l.length p := by
  have hpl : p ≤ l.length := by rw [← hn]; exact Nat.le_mul_of_pos_right _ hk
  have hu : (l.take p).length = p := by rw [List.length_take]; omega
  constructor
  · intro e t ht
    have h1 : lt_ (rep k (l.take p)) t = lt_ l t := by rw [e]
    have h2 : lt_ (rep k (l.take p)) (t + p) = lt_ l (t + p) := by rw [e]
    rw [lt_rep _ _ (by rw [hu, Nat.mul_comm, hn]; omega), hu] at h1 h2
    rw [Nat.add_mod_right] at h2
    rw [← h1, ← h2]
  · intro H
    apply list_ext
    · rw [rep_len, hu, Nat.mul_comm, hn]
    · intro i hi
      rw [rep_len, hu, Nat.mul_comm, hn] at hi
      rw [lt_rep _ _ (by rw [hu, Nat.mul_comm, hn]; omega), hu, lt_take (Nat.mod_lt _ hp)]
      have := per_mul H (i / p) (i % p) (by rw [Nat.mul_comm, Nat.mod_add_div]; omega)
      rw [this, Nat.mul_comm, Nat.mod_add_div]
/-- r letters, some times one behind the other, are the word; no less are -/
def IsPow (l : List Nat) (q : Nat) : Prop := l.length % q = 0 ∧ rep (l.length / q) (l.take q) = l
def RootAt (l : List Nat) (r : Nat) : Prop := 1 ≤ r ∧ r ≤ l.length ∧ IsPow l r ∧ ∀ q, 1 ≤ q → q < r → ¬ IsPow l q
theorem pow_per {l : List Nat} {q : Nat} (h0 : 1 ≤ l.length) (h1 : 1 ≤ q) (h2 : q ≤ l.length) (hm : l.length % q = 0) : rep (l.length / q) (l.take q) = l ↔ Per (lt_ l) l.length q :=
  rep_per h1 (Nat.mul_div_cancel' (Nat.dvd_of_mod_eq_zero hm)) (Nat.div_pos h2 h1)
theorem root_yes {l : List Nat} {p : Nat} (h : Beat (lt_ l) l.length p) (hm : l.length % p = 0) : RootAt l p := by
  have h1 := h.1
  have h2 := h.2.1
  exact ⟨h1, h2, ⟨hm, (pow_per (by omega) h1 h2 hm).mpr h.2.2.1⟩, fun q hq hq2 ⟨hm2, hr⟩ => h.2.2.2 q hq hq2 ((pow_per (by omega) hq (by omega) hm2).mp hr)⟩
theorem root_no {l : List Nat} {p : Nat} (h : Beat (lt_ l) l.length p) (hm : l.length % p ≠ 0) : RootAt l l.length := by
  have h1 := h.1
  have h2 := h.2.1
  refine ⟨by omega, by omega, ⟨Nat.mod_self _, ?_⟩, fun q hq hq2 ⟨hm2, hr⟩ => ?_⟩
  · rw [Nat.div_self (by omega), List.take_length, rep_succ, rep_zero, List.append_nil]
  · have hp := (pow_per (by omega) hq (by omega) hm2).mp hr
    obtain ⟨k, hk⟩ := Nat.dvd_of_mod_eq_zero hm2
    have hpq : p ≤ q := by
      rcases Nat.lt_or_ge q p with c | c
      · exact absurd hp (h.2.2.2 q hq c)
      · exact c
    have hk2 : 2 ≤ k := by
      rcases k with _ | _ | k
      · omega
      · omega
      · omega
    have hq3 : q * 2 ≤ l.length := by rw [hk]; exact Nat.mul_le_mul_left _ hk2
    have := beat_dvd h q q (Nat.le_refl _) hq (by omega) hp
    exact hm (Nat.mod_eq_zero_of_dvd (Nat.dvd_trans this (Nat.dvd_of_mod_eq_zero hm2)))
theorem RootAt.uniq {l : List Nat} {p q : Nat} (a : RootAt l p) (b : RootAt l q) : p = q := by
  rcases Nat.lt_trichotomy p q with h | h | h
  · exact absurd a.2.2.1 (b.2.2.2 p a.1 h)
  · exact h
  · exact absurd b.2.2.1 (a.2.2.2 q b.1 h)
section
variable {g : G} {vs : List V} {H : Hp} {Q : VK} {E : XK} {K : Frag}
/-- numbers as values -/
def nxs (ns : List Nat) : List V := ns.map fun (n : Nat) => V.int (n : Int)
theorem nxs_get {ns : List Nat} {i n : Nat} (h : ns[i]? = some n) : (nxs ns)[i]? = some (.int (n : Int)) := by
  unfold nxs
  rw [List.getElem?_map, h]
  rfl
theorem nxs_len (ns : List Nat) : (nxs ns).length = ns.length := by unfold nxs; simp
theorem nxs_app (ns : List Nat) (n : Nat) : nxs ns ++ [.int (n : Int)] = nxs (ns ++ [n]) := by unfold nxs; simp
theorem nxs_ixs (ns : List Nat) : nxs ns = ixs (ns.map Int.ofNat) := by unfold nxs ixs; rw [List.map_map]; rfl
/-! ### border_table -/
def TabOk (l : List Nat) (T : List Nat) : Prop := ∀ i, i < T.length → ∃ L, T[i]? = some L ∧ LB (lt_ l) (i + 1) L
def sp_border_table (g : G) : Sp := fun vs H Q _ => ∃ l, vs = [.str (ST l)] ∧ 1 ≤ l.length ∧ l.length ≤ 1000 ∧ ∀ p T H', T.length = l.length → TabOk l T → H p = none → Ex H H' → H' p = some (.lst (nxs T)) → Q (.ref p) H'
theorem c_border_table {l : List Nat} (h : 1 ≤ l.length) (h2 : l.length ≤ 1000) (q : ∀ p T H', T.length = l.length → TabOk l T → H p = none → Ex H H' → H' p = some (.lst (nxs T)) → Q (.ref p) H') : sp_border_table g [.str (ST l)] H Q E := ⟨l, rfl, h, h2, q⟩
theorem TabOk.app {l T : List Nat} {L : Nat} (h : TabOk l T) (hL : LB (lt_ l) (T.length + 1) L) : TabOk l (T ++ [L]) := fun i hi => by
  rw [List.length_append, List.length_singleton] at hi
  by_cases c : i < T.length
  · rw [List.getElem?_append_left c]
    exact h i c
  · obtain rfl : i = T.length := by omega
    exact ⟨L, by simp, hL⟩
/-- border_table: slots word, found, place, long -/
def t_border_table (g : G) : TS :=
  tSeq (tAsg (tLst (tCons (tC (.int 0)) tNil)) (gName 1))
    (tSeq (tFor (iRng2 (tCons (tC (.int 1)) (tCons (tCB (rLen g.K) (tCons (tVar 0) tNil)) tNil))) (gName 2) (tSeq (tAsg (tOp (rIx g.K) (tVar 1) (tUn (rU fun i => .int (-i)) (tC (.int 1)))) (gName 3))
    (tSeq (tWhile (tAnd (tTest (tOp uGt (tVar 3) (tC (.int 0)))) (tTest (tOp (uNe g.K) (tOp (rIx g.K) (tVar 0) (tVar 3)) (tOp (rIx g.K) (tVar 0) (tVar 2))))) (tAsg (tOp (rIx g.K) (tVar 1) (tOp uSub (tVar 3) (tC (.int 1)))) (gName 3)))
    (tDrop (tBM g.K "list" rAppend (tVar 1) (tCons (tOp (uAdd g.K) (tVar 3) (tCB rInt1 (tCons (tOp (uEq g.K) (tOp (rIx g.K) (tVar 0) (tVar 3)) (tOp (rIx g.K) (tVar 0) (tVar 2))) tNil))) tNil))))))
    (tRet (tVar 1)))
theorem one_ne {a b : Nat} : ([a] = [b]) ↔ a = b := by simp
theorem p_border_table (h : sp_border_table g vs H Q E) : t_border_table g (D0 Q) (st0 4 vs) H := by
  obtain ⟨l, rfl, h1, h2, q⟩ := h
  show t_border_table g (D0 Q) [some (.str (ST l)), none, none, none] H
  unfold t_border_table
  walk_at "y"
  rename_i p H1 np e1 hp
  refine x_forR (fun i (a : Option V × Option V) => [some (.str (ST l)), some (.ref p), a.1, a.2])
    (fun i a H' => Ex H H' ∧ ∃ T, H' p = some (.lst (nxs T)) ∧ T.length = i + 1 ∧ TabOk l T) (none, none) rfl ⟨e1, [0], hp, rfl, fun i hi => ?_⟩ (fun i a H2 hi I => ?_) fun a H2 I => ?_
  · obtain rfl : i = 0 := by
      have : ([0] : List Nat).length = 1 := rfl
      omega
    exact ⟨0, rfl, LB.one _⟩
  · obtain ⟨e, T, hT, hl, ok⟩ := I
    have him : i + 1 < l.length := by omega
    show tSeq _ _ _ [some (.str (ST l)), some (.ref p), some (.int (1 + (i : Int))), a.2] H2
    rw [show (1 + (i : Int)) = ((i + 1 : Nat) : Int) by omega]
    walk_at "y"
    obtain ⟨L0, hL0, lb0⟩ := ok i (by omega)
    refine x_ixL (v := .int (L0 : Int)) (SqL.of hT) ?_ ?_
    · have hne : nxs T ≠ [] := by
        intro z
        have := nxs_len T
        rw [z] at this
        simp at this
        omega
      obtain ⟨v, hv1, _, hv2⟩ := atI_neg1 hne
      rw [hv1]
      rw [List.getLast?_eq_getElem?, nxs_len, hl, show i + 1 - 1 = i by omega, nxs_get hL0] at hv2
      exact hv2.symm
    walk_at "y"
    refine x_whileB (fun (L : Nat) => [some (.str (ST l)), some (.ref p), some (.int ((i + 1 : Nat) : Int)), some (.int (L : Int))]) (fun L H' => H' = H2 ∧ BInv (lt_ l) (i + 1) L) (fun L => L) L0 rfl ⟨rfl, BInv.start lb0⟩ ?_
    rintro L H3 ⟨hH, B⟩ P hP
    subst hH
    have hLm := B.b.1
    have fin : (L = 0 ∨ lt_ l L = lt_ l (i + 1)) → tDrop (tBM g.K "list" rAppend (tVar 1) (tCons (tOp (uAdd g.K) (tVar 3) (tCB rInt1 (tCons (tOp (uEq g.K) (tOp (rIx g.K) (tVar 0) (tVar 3)) (tOp (rIx g.K) (tVar 0) (tVar 2))) tNil))) tNil))
        { nx := fun σ' H' => ∃ a' : Option V × Option V, σ' = [some (.str (ST l)), some (.ref p), a'.1, a'.2] ∧ Ex H H' ∧ ∃ T, H' p = some (.lst (nxs T)) ∧ T.length = i + 1 + 1 ∧ TabOk l T, rt := Q, bk := fun _ _ => False, ct := fun σ' H' => ∃ a' : Option V × Option V, σ' = [some (.str (ST l)), some (.ref p), a'.1, a'.2] ∧ Ex H H' ∧ ∃ T, H' p = some (.lst (nxs T)) ∧ T.length = i + 1 + 1 ∧ TabOk l T }
        [some (.str (ST l)), some (.ref p), some (.int ((i + 1 : Nat) : Int)), some (.int (L : Int))] H3 := by
      intro fin0
      walk_at "y"
      refine x_ixSn (by walk_at "sz") (lt_some (by omega)) ?_
      walk_at "y"
      refine x_ixSn (by walk_at "sz") (lt_some (by omega)) ?_
      walk_at "y"
      refine .inr ⟨_, rfl, ?_⟩
      walk_at "y"
      refine x_append hT (by rw [nxs_len, sizeLine_eq]; omega) ?_
      have hfin : ∀ L' : Nat, LB (lt_ l) (i + 1 + 1) L' → ∃ a' : Option V × Option V, [some (.str (ST l)), some (.ref p), some (.int ((i + 1 : Nat) : Int)), some (.int (L : Int))] = [some (.str (ST l)), some (.ref p), a'.1, a'.2] ∧ Ex H (upd H3 p (.lst (nxs T ++ [.int (L' : Int)]))) ∧ ∃ T', (upd H3 p (.lst (nxs T ++ [.int (L' : Int)]))) p = some (.lst (nxs T')) ∧ T'.length = i + 1 + 1 ∧ TabOk l T' := fun L' hL' =>
        ⟨(_, _), rfl, Evl.Ex.mut e np, T ++ [L'], by rw [upd_same, nxs_app], by rw [List.length_append, hl]; rfl, ok.app (by rw [hl]; exact hL')⟩
      by_cases c : lt_ l L = lt_ l (i + 1)
      · rw [decide_eq_true (show [lt_ l L] = [lt_ l (i + 1)] by rw [c])]
        have := hfin (L + 1) (B.yes c)
        rw [show (((L + 1 : Nat)) : Int) = (L : Int) + 1 by omega] at this
        exact this
      · rw [decide_eq_false (fun z => c (one_ne.mp z))]
        obtain rfl : L = 0 := by
          rcases fin0 with h | h
          · exact h
          · exact absurd h c
        have := hfin 0 (B.no c)
        exact this
    walk_at "y"
    refine x_ifd (fun hL => ?_) fun hL => ?_
    · walk_at "y"
      refine x_ixSn (by walk_at "sz") (lt_some (by omega)) ?_
      walk_at "y"
      refine x_ixSn (by walk_at "sz") (lt_some (by omega)) ?_
      walk_at "y"
      refine hP _ _ Ex.rfl' (fun hne => ?_) fun heq => ?_
      · have hne : lt_ l L ≠ lt_ l (i + 1) := fun z => by
          rw [z] at hne
          simp at hne
        walk_at "y"
        obtain ⟨L2, hL2, lb2⟩ := ok (L - 1) (by omega)
        rw [show L - 1 + 1 = L by omega] at lb2
        refine x_ixL (v := .int (L2 : Int)) (SqL.of hT) (by rw [show (L : Int) - 1 = ((L - 1 : Nat) : Int) by omega]; exact atI_nat (nxs_get hL2)) ?_
        walk_at "y"
        exact ⟨L2, rfl, ⟨rfl, B.step lb2 hne⟩, lb2.1.1⟩
      · refine fin (.inr ?_)
        by_cases c : lt_ l L = lt_ l (i + 1)
        · exact c
        · rw [decide_eq_false (fun z => c (one_ne.mp z))] at heq
          exact absurd heq (by decide)
    · refine hP _ _ Ex.rfl' (fun h => absurd h (by decide)) fun _ => fin (.inl (by omega))
  · obtain ⟨e, T, hT, hl, ok⟩ := I
    walk_at "y"
    exact q p T _ (by omega) ok np e hT
theorem x_reverse {l : Addr} {xs : List V} (h : H l = some (.lst xs)) (q : Q .non (upd H l (.lst xs.reverse))) : rReverse (.ref l) [] H Q := ⟨l, xs, rfl, rfl, h, q⟩
theorem x_divmod {i j : Int} (h : 0 < j) (h2 : j < 1073741824) (q : ∀ p H', H p = none → Ex H H' → H' p = some (.tup [.int (i / j), .int (i % j)]) → Q (.ref p) H') : rDivmod [.int i, .int j] H Q :=
  ⟨i, j, rfl, ⟨h, h2⟩, fun p hp => q p _ hp (Evl.Ex.new hp) upd_same⟩
theorem nxs_rev (ns : List Nat) : (nxs ns).reverse = nxs ns.reverse := by unfold nxs; rw [List.map_reverse]
theorem last_tab {l T : List Nat} (h : 1 ≤ l.length) (hl : T.length = l.length) (ok : TabOk l T) : ∃ L, LB (lt_ l) l.length L ∧ atI (nxs T) (-1) = some (.int (L : Int)) := by
  obtain ⟨L, hL, lb⟩ := ok (l.length - 1) (by omega)
  rw [show l.length - 1 + 1 = l.length by omega] at lb
  refine ⟨L, lb, ?_⟩
  have hne : nxs T ≠ [] := by
    intro z
    have := nxs_len T
    rw [z] at this
    simp at this
    omega
  obtain ⟨v, hv1, _, hv2⟩ := atI_neg1 hne
  rw [hv1]
  rw [List.getLast?_eq_getElem?, nxs_len, hl, nxs_get hL] at hv2
  exact hv2.symm
/-! ### borders -/
def sp_borders (g : G) : Sp := fun vs H Q E => (∃ l, vs = [.str (ST l)] ∧ Word l ∧ ∀ p H', H p = none → Ex H H' → H' p = some (.lst (nxs (bordersL l))) → Q (.ref p) H') ∨ (∃ v, vs = [v] ∧ IsW g.K H v false ∧ ∀ H', Ex H H' → E (.ref g.cNoWord) none H')
theorem c_borders {l : List Nat} (h : Word l) (q : ∀ p H', H p = none → Ex H H' → H' p = some (.lst (nxs (bordersL l))) → Q (.ref p) H') : sp_borders g [.str (ST l)] H Q E := .inl ⟨l, rfl, h, q⟩
theorem c_bordersN {v : V} (h : IsW g.K H v false) (q : ∀ H', Ex H H' → E (.ref g.cNoWord) none H') : sp_borders g [v] H Q E := .inr ⟨v, rfl, h, q⟩
/-- borders: slots word, table, found, long -/
def t_borders (g : G) (E : XK) : TS :=
  tSeq (tDrop (tCall (sp_need_word g) [] E (tCons (tVar 0) tNil)))
    (tSeq (tAsg (tCall (sp_border_table g) [] E0 (tCons (tVar 0) tNil)) (gName 1))
    (tSeq (tAsg (tLst tNil) (gName 2))
    (tSeq (tAsg (tOp (rIx g.K) (tVar 1) (tUn (rU fun i => .int (-i)) (tC (.int 1)))) (gName 3))
    (tSeq (tWhile (tTest (tOp uGt (tVar 3) (tC (.int 0)))) (tSeq (tDrop (tBM g.K "list" rAppend (tVar 2) (tCons (tVar 3) tNil)))
    (tAsg (tOp (rIx g.K) (tVar 1) (tOp uSub (tVar 3) (tC (.int 1)))) (gName 3))))
    (tSeq (tDrop (tBM0 g.K "list" rReverse (tVar 2)))
    (tRet (tVar 2)))))))
theorem p_borders (h : sp_borders g vs H Q E) : t_borders g E (D0 Q) (st0 4 vs) H := by
  rcases h with ⟨l, rfl, hw, q⟩ | ⟨v, rfl, hw, q⟩
  · show t_borders g E (D0 Q) [some (.str (ST l)), none, none, none] H
    unfold t_borders
    walk_at "y"
    refine c_need_word hw fun H1 e1 => ?_
    have hw2 := hw.2
    walk_at "y"
    refine c_border_table (by omega) (by omega) fun pt T H2 hTl ok npt e2 hpt => ?_
    walk_at "y"
    rename_i pf H3 npf e3 hpf
    obtain ⟨L0, lb0, ha⟩ := last_tab (by omega) hTl ok
    refine x_ixL (SqL.of (e3 _ _ hpt)) ha ?_
    walk_at "y"
    have hne : pf ≠ pt := fun z => by rw [z, hpt] at npf; cases npf
    have npf0 : H pf = none := fresh_back (Ex.trs e1 e2) npf
    refine x_whileB (fun (L : Nat) => [some (.str (ST l)), some (.ref pt), some (.ref pf), some (.int (L : Int))])
      (fun L H' => Ex H H' ∧ H' pt = some (.lst (nxs T)) ∧ H' pf = some (.lst (nxs (above l L).reverse)) ∧ Bd (lt_ l) l.length L) (fun L => L) L0 rfl ⟨Ex.trs (Ex.trs e1 e2) e3, e3 _ _ hpt, by rw [above_top lb0]; exact hpf, lb0.1⟩ ?_
    rintro L H4 ⟨e, h1, h2, hb⟩ P hP
    walk_at "y"
    refine hP _ _ Ex.rfl' (fun hL => ?_) fun hL => ?_
    · have hL := of_decide_eq_true hL
      have hlen : (above l L).length ≤ l.length := by
        have := List.length_filter_le (fun x => decide (L < x) && decide (l.take x = l.drop (l.length - x))) (List.range l.length)
        rwa [List.length_range] at this
      have hbl := hb.1
      walk_at "y"
      refine x_append h2 (by rw [nxs_len, List.length_reverse, sizeLine_eq]; omega) ?_
      walk_at "y"
      obtain ⟨L2, hL2, lb2⟩ := ok (L - 1) (by omega)
      rw [show L - 1 + 1 = L by omega] at lb2
      refine x_ixL (v := .int (L2 : Int)) (xs := nxs T) (SqL.of (by rw [upd_ne hne.symm]; exact h1)) (by rw [show (L : Int) - 1 = ((L - 1 : Nat) : Int) by omega]; exact atI_nat (nxs_get hL2)) ?_
      walk_at "y"
      refine ⟨L2, rfl, ⟨Evl.Ex.mut e npf0, by rw [upd_ne hne.symm]; exact h1, ?_, hb.trans lb2.1⟩, lb2.1.1⟩
      rw [upd_same, above_step hb lb2, List.reverse_cons, ← nxs_app]
    · have hL := of_decide_eq_false hL
      obtain rfl : L = 0 := by omega
      walk_at "y"
      refine x_reverse h2 ?_
      walk_at "y"
      refine q pf _ npf0 (Evl.Ex.mut e npf0) ?_
      rw [upd_same, nxs_rev, List.reverse_reverse, above_zero]
  · show t_borders g E (D0 Q) [some v, none, none, none] H
    unfold t_borders
    walk_at "y"
    exact c_need_wordN hw q
/-! ### beat -/
def sp_beat (g : G) : Sp := fun vs H Q E => (∃ l, vs = [.str (ST l)] ∧ Word l ∧ ∀ (p : Nat) H', Beat (lt_ l) l.length p → Ex H H' → Q (.int p) H') ∨ (∃ v, vs = [v] ∧ IsW g.K H v false ∧ ∀ H', Ex H H' → E (.ref g.cNoWord) none H')
theorem c_beat {l : List Nat} (h : Word l) (q : ∀ (p : Nat) H', Beat (lt_ l) l.length p → Ex H H' → Q (.int p) H') : sp_beat g [.str (ST l)] H Q E := .inl ⟨l, rfl, h, q⟩
theorem c_beatN {v : V} (h : IsW g.K H v false) (q : ∀ H', Ex H H' → E (.ref g.cNoWord) none H') : sp_beat g [v] H Q E := .inr ⟨v, rfl, h, q⟩
/-- beat: slots word -/
def t_beat (g : G) (E : XK) : TS :=
  tSeq (tDrop (tCall (sp_need_word g) [] E (tCons (tVar 0) tNil)))
    (tRet (tOp uSub (tCB (rLen g.K) (tCons (tVar 0) tNil)) (tOp (rIx g.K) (tCall (sp_border_table g) [] E0 (tCons (tVar 0) tNil)) (tUn (rU fun i => .int (-i)) (tC (.int 1))))))
theorem p_beat (h : sp_beat g vs H Q E) : t_beat g E (D0 Q) (st0 1 vs) H := by
  rcases h with ⟨l, rfl, hw, q⟩ | ⟨v, rfl, hw, q⟩
  · show t_beat g E (D0 Q) [some (.str (ST l))] H
    unfold t_beat
    walk_at "y"
    refine c_need_word hw fun H1 e1 => ?_
    have hw2 := hw.2
    walk_at "y"
    refine c_border_table (by omega) (by omega) fun pt T H2 hTl ok npt e2 hpt => ?_
    walk_at "y"
    obtain ⟨L0, lb0, ha⟩ := last_tab (by omega) hTl ok
    refine x_ixL (SqL.of hpt) ha ?_
    walk_at "y"
    have := lb0.1.1
    rw [show (l.length : Int) - (L0 : Int) = ((l.length - L0 : Nat) : Int) by omega]
    exact q _ _ (beat_of lb0) (Ex.trs e1 e2)
  · show t_beat g E (D0 Q) [some v] H
    unfold t_beat
    walk_at "y"
    exact c_need_wordN hw q
/-! ### root -/
def sp_root (g : G) : Sp := fun vs H Q E => (∃ l, vs = [.str (ST l)] ∧ Word l ∧ ∀ p (r : Nat) H', RootAt l r → H p = none → Ex H H' → H' p = some (.tup [.str (ST (l.take r)), .int ((l.length / r : Nat) : Int)]) → Q (.ref p) H') ∨ (∃ v, vs = [v] ∧ IsW g.K H v false ∧ ∀ H', Ex H H' → E (.ref g.cNoWord) none H')
theorem c_root {l : List Nat} (h : Word l) (q : ∀ p (r : Nat) H', RootAt l r → H p = none → Ex H H' → H' p = some (.tup [.str (ST (l.take r)), .int ((l.length / r : Nat) : Int)]) → Q (.ref p) H') : sp_root g [.str (ST l)] H Q E := .inl ⟨l, rfl, h, q⟩
theorem c_rootN {v : V} (h : IsW g.K H v false) (q : ∀ H', Ex H H' → E (.ref g.cNoWord) none H') : sp_root g [v] H Q E := .inr ⟨v, rfl, h, q⟩
/-- root: slots word, step, times, rest -/
def t_root (g : G) (E : XK) : TS :=
  tSeq (tAsg (tCall (sp_beat g) [] E (tCons (tVar 0) tNil)) (gName 1))
    (tSeq (tAsg (tCB rDivmod (tCons (tCB (rLen g.K) (tCons (tVar 0) tNil)) (tCons (tVar 1) tNil))) (gTup g.K 2 (gCons (gName 2) (gCons (gName 3) gNil))))
    (tSeq (tIfS (tTest (tOp uGt (tVar 3) (tC (.int 0)))) (tRet (tTup (tCons (tVar 0) (tCons (tC (.int 1)) tNil)))) tNext)
    (tRet (tTup (tCons (tSl (rSlU g.K) (tVar 0) tNoPart (tPart (tVar 1))) (tCons (tVar 2) tNil))))))
theorem p_root (h : sp_root g vs H Q E) : t_root g E (D0 Q) (st0 4 vs) H := by
  rcases h with ⟨l, rfl, hw, q⟩ | ⟨v, rfl, hw, q⟩
  · show t_root g E (D0 Q) [some (.str (ST l)), none, none, none] H
    unfold t_root
    walk_at "y"
    refine c_beat hw fun p0 H1 hb e1 => ?_
    have hw2 := hw.2
    have b1 := hb.1
    have b2 := hb.2.1
    walk_at "y"
    refine x_divmod (by omega) (by omega) fun p H2 np e2 hp => ?_
    walk_at "y"
    refine x_gtup hp rfl ?_
    have e3 := Int.natCast_emod l.length p0
    have e4 := Int.natCast_ediv l.length p0
    walk_at "y"
    refine x_ifd (fun hm => ?_) fun hm => ?_
    · have hm' : l.length % p0 ≠ 0 := fun z => by rw [z] at e3; omega
      walk_at "y"
      rename_i p2 H3 np2 e5 hp2
      refine q p2 l.length _ (root_no hb hm') (fresh_back (Ex.trs e1 e2) np2) (Ex.trs (Ex.trs e1 e2) e5) ?_
      rw [hp2, List.take_length, Nat.div_self (by omega)]
      all_goals rfl
    · have hm' : l.length % p0 = 0 := by omega
      walk_at "y"
      rename_i p2 H3 np2 e5 hp2
      refine q p2 p0 _ (root_yes hb hm') (fresh_back (Ex.trs e1 e2) np2) (Ex.trs (Ex.trs e1 e2) e5) ?_
      rw [hp2, e4]
  · show t_root g E (D0 Q) [some v, none, none, none] H
    unfold t_root
    walk_at "y"
    exact c_beatN hw q
end
end RW

/-! P8: lists of numbers picked. -/
namespace RW
open PySem PySem.Spec PyProof.Rows L2
open Evl (Ex ex_l ex_t ex_rd fresh_back)
/-- [x for x in range(..) if ..] -/
theorem x_lcRf {σ : L2.St} {H : Hp} {Q : VK} {t : TT} {vs : List Nat} {j n : Nat} {lo : Int} (P : Nat → Bool) (hn : n ≤ 16000000) (hw : ∀ x, wipe ((wipe σ vs).set j (some x)) vs = wipe σ vs) (hj : ∀ x, ((wipe σ vs).set j (some x))[j]? = some (some x))
    (hb : ∀ (i : Nat) (H' : Hp), i < n → Ex H H' → ∀ R : Bool → Hp → Prop, (∀ H3, Ex H' H3 → R (P i) H3) → t ((wipe σ vs).set j (some (.int (lo + (i : Int))))) H' R)
    (q : ∀ (p : Addr) (H' : Hp), H p = none → Ex H H' → H' p = some (.lst (ixs (((List.range n).filter P).map fun (i : Nat) => lo + (i : Int)))) → Q (.ref p) H') : lcGo (Itr lo n) (gName j) t (tVar j) vs σ H Q := by
  refine x_lcR (fun i => if P i = true then some (.int (lo + (i : Int))) else none) hn hw (fun i H' hi e R R0 h1 h2 => ?_) fun p H' h1 h2 h3 => q p H' h1 h2 ?_
  · refine hb i H' hi e _ fun H3 e3 => ?_
    cases hP : P i with
    | true =>
      refine x_it rfl (x_var (hj _) (h1 _ _ ?_ e3))
      rw [if_pos hP]
    | false =>
      refine x_if0 rfl (h2 ?_ _ e3)
      rw [if_neg (by rw [hP]; decide)]
  · rw [h3]
    congr 2
    unfold ixs
    rw [List.map_map, ← List.filterMap_eq_map, ← List.filterMap_eq_filter, List.filterMap_filterMap]
    congr 1
    funext i
    cases hP : P i <;> simp [Option.guard, hP]
theorem range_shift {P : Nat → Bool} (h0 : P 0 = false) : ∀ n, (List.range n).filter P = ((List.range (n - 1)).filter fun i => P (i + 1)).map (· + 1)
  | 0 => rfl
  | n + 1 => by
    rw [List.range_succ_eq_map, List.filter_cons, if_neg (by rw [h0]; decide), List.filter_map]
    rfl
theorem due_borders (l : List Nat) : ixs (((List.range (l.length - 1)).filter fun i => decide (l.take (i + 1) = l.drop (l.length - (i + 1)))).map fun (i : Nat) => 1 + (i : Int)) = nxs (bordersL l) := by
  have h := range_shift (P := fun L => decide (1 ≤ L) && decide (l.take L = l.drop (l.length - L))) (by simp) l.length
  have e : (fun i => decide (1 ≤ i + 1) && decide (l.take (i + 1) = l.drop (l.length - (i + 1)))) = fun i => decide (l.take (i + 1) = l.drop (l.length - (i + 1))) := by
    funext i
    rw [decide_eq_true (by omega : 1 ≤ i + 1), Bool.true_and]
  simp only [e] at h
  unfold bordersL
  rw [h, nxs_ixs, List.map_map]
  congr 1
  apply List.map_congr_left
  intro i _
  show 1 + (i : Int) = ((i + 1 : Nat) : Int)
  omega
theorem filter_head {P : Nat → Bool} {n L : Nat} (h : L < n) (hP : P L = true) (hn : ∀ x, x < L → P x = false) : ∃ r, (List.range n).filter P = L :: r := by
  rw [range_cut h, List.filter_append, List.filter_cons, if_pos hP]
  have e1 : (List.range L).filter P = [] := by
    rw [List.filter_eq_nil_iff]
    intro x hx
    rw [hn x (List.mem_range.mp hx)]
    decide
  rw [e1]
  exact ⟨_, rfl⟩
end RW

/-! P9: runs, cuts, pieces. -/
namespace RW
open PySem PySem.Spec PyProof.Rows L2
open Evl (Ex ex_l ex_t ex_rd fresh_back)
local macro_rules | `(tactic| walk_at "x") => `(tactic| first
  | ((with_reducible apply x_var); exact rfl)
  | with_reducible refine x_c ?_
  | with_reducible refine x_op ?_
  | with_reducible refine x_un ?_
  | with_reducible refine x_neg ?_
  | with_reducible refine x_addI ?_
  | with_reducible refine x_subI ?_
  | with_reducible refine x_ltI ?_
  | with_reducible refine x_ltS ?_
  | with_reducible refine x_leI ?_
  | with_reducible refine x_leS ?_
  | with_reducible refine x_gtI ?_
  | with_reducible refine x_gtS ?_
  | with_reducible refine x_geI ?_
  | with_reducible refine x_eqI ?_
  | with_reducible refine x_eqS ?_
  | with_reducible refine x_eqB ?_
  | with_reducible refine x_neI ?_
  | with_reducible refine x_neS ?_
  | with_reducible refine x_isN ?_
  | with_reducible refine x_isB ?_
  | with_reducible refine x_isNotN ?_
  | with_reducible refine x_isNotB ?_
  | with_reducible refine x_inS ?_
  | with_reducible refine x_sl ?_
  | with_reducible refine x_part ?_
  | with_reducible refine x_nopart ?_
  | with_reducible refine x_rev ?_
  | with_reducible refine x_nil ?_
  | with_reducible refine x_cons ?_
  | with_reducible refine x_lst0 ?_
  | with_reducible refine x_tup0 ?_
  | with_reducible refine x_call0 ?_
  | with_reducible refine x_callS ?_
  | with_reducible refine x_cb ?_
  | with_reducible refine x_m1 ?_
  | with_reducible refine x_m1s ?_
  | with_reducible refine x_bm ?_
  | with_reducible refine x_bm0 ?_
  | with_reducible refine x_tyS ?_
  | with_reducible refine x_max2 ?_
  | with_reducible refine x_min2 ?_
  | with_reducible refine x_seq ?_
  | with_reducible refine x_asg ?_
  | with_reducible refine x_asgG ?_
  | with_reducible refine x_ret ?_
  | with_reducible refine x_retN ?_
  | with_reducible refine x_if ?_
  | with_reducible refine x_next ?_
  | with_reducible refine x_drop ?_
  | with_reducible refine x_break ?_
  | with_reducible refine x_cont ?_
  | with_reducible refine x_par ?_
  | with_reducible refine x_par2 ?_
  | ((with_reducible apply x_aug); exact rfl)
  | with_reducible refine x_ip ?_
  | with_reducible refine x_test ?_
  | with_reducible refine x_tB ?_
  | with_reducible refine x_bl ?_
  | with_reducible refine x_and ?_
  | with_reducible refine x_or ?_
  | with_reducible refine x_not ?_
  | with_reducible refine x_andV ?_
  | with_reducible refine x_orV ?_
  | with_reducible refine x_notV ?_
  | with_reducible refine x_ifV ?_
  | with_reducible refine x_chain ?_
  | with_reducible refine x_intA ?_
  | with_reducible refine x_strA ?_
  | with_reducible refine x_yes ?_
  | with_reducible refine iteT ?_
  | with_reducible refine iteF ?_
  | with_reducible refine x_forRng1 ?_
  | with_reducible refine x_forRng2 ?_
  | with_reducible refine x_forLst ?_
  | with_reducible refine x_forU ?_
  | with_reducible refine x_lcRng1 ?_
  | with_reducible refine x_lcRng2 ?_
  | with_reducible refine x_lcLst ?_
  | with_reducible refine x_lcU ?_
  | with_reducible refine x_uS ?_
  | with_reducible refine x_gcons ?_
  | with_reducible refine x_gnil ?_
  -- with side conditions
  | ((with_reducible refine x_addS ?hs ?_); (case hs => walk_at "sz"))
  | ((with_reducible refine x_divI ?hs ?ht ?_); (case hs => walk_at "sz"); (case ht => walk_at "sz"))
  | ((with_reducible refine x_modI ?hs ?_); (case hs => walk_at "sz"))
  | ((with_reducible refine x_mulI ?hs ?_); (case hs => walk_at "sz"))
  | ((with_reducible refine x_lenS ?hs ?_); (case hs => walk_at "sz"))
  | ((with_reducible refine x_slSlo ?hs ?_); (case hs => walk_at "sz"))
  | ((with_reducible refine x_slShi ?hs ?_); (case hs => walk_at "sz"))
  | ((with_reducible refine x_slSlohi ?hs ?_); (case hs => walk_at "sz"))
  | ((with_reducible refine x_slShiNeg ?hs ?_); (case hs => walk_at "sz"))
  | ((with_reducible refine x_slSloI ?ht ?hs ?_); (case ht => walk_at "sz"); (case hs => walk_at "sz"))
  | ((with_reducible refine x_slShiI ?ht ?hs ?_); (case ht => walk_at "sz"); (case hs => walk_at "sz"))
  | ((with_reducible refine x_rng1 ?hs ?ht ?_); (case hs => walk_at "sz"); (case ht => walk_at "sz"))
  | ((with_reducible refine x_rng2 ?hs ?_); (case hs => walk_at "sz"))
  | ((with_reducible refine x_newL ?hs ?_); (case hs => walk_at "sz"); intro px Hx npx ex hpx)
  | ((with_reducible refine x_newT ?hs ?_); (case hs => walk_at "sz"); intro px Hx npx ex hpx)
  | ((with_reducible apply x_lenL); (walk_at "hp"))
  | ((with_reducible apply x_refL); (walk_at "hp"))
  | ((with_reducible apply x_uL); (walk_at "hp"))
  | ((with_reducible apply x_tyL); (walk_at "hp"))
  )
local macro_rules | `(tactic| walk_at "xs") => `(tactic| repeat (walk_at "x"))
/- sizes, bounds -/
local macro_rules | `(tactic| walk_at "sz") => `(tactic| first
  | with_reducible assumption
  | (rw [sizeLine_eq]; first | omega | (simp only [List.length_cons, List.length_nil, List.length_append, List.length_map, List.length_reverse, List.length_range, List.length_drop, List.length_take, List.length_dropLast]; omega))
  | omega
  | (unfold CMul; omega)
  | (simp only [List.length_cons, List.length_nil, List.length_append, List.length_map, List.length_reverse, List.length_range, List.length_drop, List.length_take, List.length_dropLast]; omega))
/- what stands in the heap -/
local macro_rules | `(tactic| walk_at "hp") => `(tactic| first
  | assumption
  | ((with_reducible apply SqL.of); walk_at "hp")
  | ((with_reducible apply SqT.of); walk_at "hp")
  | ((with_reducible apply Ex.at_); assumption; walk_at "hp")
  | ((with_reducible apply ex_l); assumption; walk_at "hp")
  | ((with_reducible apply ex_t); assumption; walk_at "hp"))
local macro_rules | `(tactic| walk_at "ex") => `(tactic| first
  | assumption
  | exact Ex.rfl'
  | (refine Ex.trs ?_ (by assumption); walk_at "ex"))
/- an item at a place within: what is left speaks of the item -/
local macro_rules | `(tactic| walk_at "ix") => `(tactic| ((with_reducible apply x_ixLm); (walk_at "hp"); (walk_at "sz"); (walk_at "sz")))
local macro_rules | `(tactic| walk_at "is") => `(tactic| ((with_reducible apply x_ixSm); (walk_at "sz"); (walk_at "sz"); (walk_at "sz")))

local macro_rules | `(tactic| walk_at "y") => `(tactic| repeat (walk_at "x"))
section
variable {g : G} {vs : List V} {H : Hp} {Q : VK} {E : XK} {K : Frag}
theorem one_lt2 {a b : Nat} : ([b] < [a]) ↔ b < a := by
  rw [List.cons_lt_cons_iff]
  constructor
  · rintro (h | ⟨_, h⟩)
    · exact h
    · exact absurd h (List.not_lt_nil _)
  · exact .inl
/-! ### run_from -/
def sp_run_from (g : G) : Sp := fun vs H Q _ => ∃ (l : List Nat) (b : Nat), vs = [.str (ST l), .int (b : Int)] ∧ b < l.length ∧ l.length ≤ 1000 ∧ ∀ (p : Addr) (pp h : Nat) H', RunOk (lt_ l) l.length b pp h → H p = none → Ex H H' → H' p = some (.tup [.int (pp : Int), .int ((b + h : Nat) : Int)]) → Q (.ref p) H'
theorem c_run_from {l : List Nat} {b : Nat} (h1 : b < l.length) (h2 : l.length ≤ 1000) (q : ∀ (p : Addr) (pp h : Nat) H', RunOk (lt_ l) l.length b pp h → H p = none → Ex H H' → H' p = some (.tup [.int (pp : Int), .int ((b + h : Nat) : Int)]) → Q (.ref p) H') : sp_run_from g [.str (ST l), .int (b : Int)] H Q E := ⟨l, b, rfl, h1, h2, q⟩
/-- run_from: slots word, begin, here, there -/
def t_run_from (g : G) : TS :=
  tSeq (tAsg (tVar 1) (gName 2))
    (tSeq (tAsg (tOp (uAdd g.K) (tVar 1) (tC (.int 1))) (gName 3))
    (tSeq (tWhile (tAnd (tTest (tOp uLt (tVar 3) (tCB (rLen g.K) (tCons (tVar 0) tNil)))) (tTest (tOp uLe (tOp (rIx g.K) (tVar 0) (tVar 2)) (tOp (rIx g.K) (tVar 0) (tVar 3))))) (tSeq (tAsg (tIf (tTest (tOp uLt (tOp (rIx g.K) (tVar 0) (tVar 2)) (tOp (rIx g.K) (tVar 0) (tVar 3)))) (tVar 1) (tOp (uAdd g.K) (tVar 2) (tC (.int 1)))) (gName 2))
    (tAug 3 (tC (.int 1)) (ipI fun i j => i + j))))
    (tRet (tTup (tCons (tOp uSub (tVar 3) (tVar 2)) (tCons (tVar 2) tNil))))))
theorem p_run_from (h : sp_run_from g vs H Q E) : t_run_from g (D0 Q) (st0 4 vs) H := by
  obtain ⟨l, b, rfl, h1, h2, q⟩ := h
  show t_run_from g (D0 Q) [some (.str (ST l)), some (.int (b : Int)), none, none] H
  unfold t_run_from
  walk_at "y"
  refine x_whileB (fun (a : Nat × Nat) => [some (.str (ST l)), some (.int (b : Int)), some (.int ((b + a.1 : Nat) : Int)), some (.int ((b + a.2 : Nat) : Int))])
    (fun a H' => H' = H ∧ DInv (fun t => lt_ l (b + t)) a.1 a.2 ∧ b + a.2 ≤ l.length) (fun a => l.length - a.2) (0, 1) rfl ⟨rfl, DInv.start _, h1⟩ ?_
  rintro ⟨x, j⟩ H1 ⟨rfl, I, hj⟩ P hP
  have hlt := I.lt
  dsimp only at hj hlt I hP ⊢
  have fin : (b + j = l.length ∨ lt_ l (b + j) < lt_ l (b + x)) → tRet (tTup (tCons (tOp uSub (tVar 3) (tVar 2)) (tCons (tVar 2) tNil))) { nx := fun x H' => Q V.non H', rt := Q } [some (.str (ST l)), some (.int (b : Int)), some (.int ((b + x : Nat) : Int)), some (.int ((b + j : Nat) : Int))] H1 := by
    intro he
    walk_at "y"
    rename_i p H2 np e hp
    have R : RunOk (lt_ l) l.length b (j - x) x := ⟨by omega, by omega, I.ly, fun t ht => I.pe t ht, by rw [show x + (j - x) = j by omega]; exact he⟩
    refine q p (j - x) x H2 R np e ?_
    rw [hp, show ((b + j : Nat) : Int) - ((b + x : Nat) : Int) = ((j - x : Nat) : Int) by omega]
  walk_at "y"
  refine x_ifd (fun c => ?_) fun c => ?_
  · have hjl : b + j < l.length := by omega
    walk_at "y"
    refine x_ixSn (by walk_at "sz") (lt_some (by omega)) ?_
    walk_at "y"
    refine x_ixSn (by walk_at "sz") (lt_some hjl) ?_
    walk_at "y"
    refine hP _ _ Ex.rfl' (fun hb => ?_) fun hb => ?_
    · have hle : lt_ l (b + x) ≤ lt_ l (b + j) := by
        refine Nat.le_of_not_lt fun z => ?_
        rw [decide_eq_true (one_lt2.mpr z)] at hb
        exact absurd hb (by decide)
      walk_at "y"
      refine x_ixSn (by walk_at "sz") (lt_some (by omega)) ?_
      walk_at "y"
      refine x_ixSn (by walk_at "sz") (lt_some hjl) ?_
      walk_at "y"
      refine x_ifd (fun c2 => ?_) fun c2 => ?_
      · have c2 := one_lt2.mp c2
        walk_at "y"
        exact ⟨(0, j + 1), rfl, ⟨rfl, I.less c2, by dsimp only; omega⟩, by dsimp only; omega⟩
      · have c2 : lt_ l (b + x) = lt_ l (b + j) := by
          have : ¬ lt_ l (b + x) < lt_ l (b + j) := fun z => c2 (one_lt2.mpr z)
          omega
        walk_at "y"
        exact ⟨(x + 1, j + 1), rfl, ⟨rfl, I.eq c2, by dsimp only; omega⟩, by dsimp only; omega⟩
    · refine fin (.inr ?_)
      refine Nat.lt_of_not_le fun z => ?_
      rw [decide_eq_false (fun y => by have := one_lt2.mp y; omega)] at hb
      exact absurd hb (by decide)
  · exact hP _ _ Ex.rfl' (fun h => absurd h (by decide)) fun _ => fin (.inl (by omega))
/-! ### cuts -/
def sp_cuts (g : G) : Sp := fun vs H Q E => (∃ l, vs = [.str (ST l)] ∧ Word l ∧ ∀ p ps H', CFL l ps → H p = none → Ex H H' → H' p = some (.lst (nxs (places ps))) → Q (.ref p) H') ∨ (∃ v, vs = [v] ∧ IsW g.K H v false ∧ ∀ H', Ex H H' → E (.ref g.cNoWord) none H')
theorem c_cuts {l : List Nat} (h : Word l) (q : ∀ p ps H', CFL l ps → H p = none → Ex H H' → H' p = some (.lst (nxs (places ps))) → Q (.ref p) H') : sp_cuts g [.str (ST l)] H Q E := .inl ⟨l, rfl, h, q⟩
theorem c_cutsN {v : V} (h : IsW g.K H v false) (q : ∀ H', Ex H H' → E (.ref g.cNoWord) none H') : sp_cuts g [v] H Q E := .inr ⟨v, rfl, h, q⟩
/-- cuts: slots word, found, begin, long, last -/
def t_cuts (g : G) (E : XK) : TS :=
  tSeq (tDrop (tCall (sp_need_word g) [] E (tCons (tVar 0) tNil)))
    (tSeq (tAsg (tLst tNil) (gName 1))
    (tSeq (tAsg (tC (.int 0)) (gName 2))
    (tSeq (tWhile (tTest (tOp uLt (tVar 2) (tCB (rLen g.K) (tCons (tVar 0) tNil)))) (tSeq (tAsg (tCall (sp_run_from g) [] E0 (tCons (tVar 0) (tCons (tVar 2) tNil))) (gTup g.K 2 (gCons (gName 3) (gCons (gName 4) gNil))))
    (tWhile (tTest (tOp uLe (tVar 2) (tVar 4))) (tSeq (tDrop (tBM g.K "list" rAppend (tVar 1) (tCons (tVar 2) tNil)))
    (tAug 2 (tVar 3) (ipI fun i j => i + j))))))
    (tRet (tVar 1)))))
theorem len_le_flat : ∀ {ps : List (List Nat)}, (∀ w ∈ ps, w ≠ []) → ps.length ≤ ps.flatten.length
  | [], _ => Nat.le_refl _
  | w :: r, h => by
    have h1 := len_le_flat (ps := r) fun v hv => h v (List.mem_cons_of_mem _ hv)
    have h2 := List.length_pos_iff.mpr (h w List.mem_cons_self)
    rw [List.flatten_cons, List.length_append, List.length_cons]
    omega
theorem p_cuts (h : sp_cuts g vs H Q E) : t_cuts g E (D0 Q) (st0 5 vs) H := by
  rcases h with ⟨l, rfl, hw, q⟩ | ⟨v, rfl, hw, q⟩
  · show t_cuts g E (D0 Q) [some (.str (ST l)), none, none, none, none] H
    unfold t_cuts
    walk_at "y"
    refine c_need_word hw fun H1 e1 => ?_
    have hw2 := hw.2
    walk_at "y"
    rename_i p H2 np e2 hp
    have np0 : H p = none := fresh_back e1 np
    refine x_whileB (fun (a : Nat × Option V × Option V) => [some (.str (ST l)), some (.ref p), some (.int (a.1 : Int)), a.2.1, a.2.2])
      (fun a H' => Ex H H' ∧ ∃ ps, CInv l a.1 ps ∧ (∀ u, ps.getLast? = some u → ∀ k, ¬ u < (l.drop a.1).take k) ∧ H' p = some (.lst (nxs (places ps)))) (fun a => l.length - a.1) (0, none, none) rfl
      ⟨Ex.trs e1 e2, [], CInv.start l, fun u h => by simp at h, hp⟩ ?_
    rintro ⟨b, x, y⟩ H3 ⟨e, ps, I, hnx, hps⟩ P hP
    dsimp only at I hnx hP ⊢
    walk_at "y"
    refine hP _ _ Ex.rfl' (fun hb => ?_) fun hb => ?_
    · have hb := of_decide_eq_true hb
      have hb : b < l.length := by omega
      walk_at "y"
      refine c_run_from hb (by omega) fun pt pp h H4 R npt e4 hpt => ?_
      walk_at "y"
      refine x_gtup hpt rfl ?_
      walk_at "y"
      have p1 := R.p1
      have ple := R.le
      refine x_whileB (fun (k : Nat) => [some (.str (ST l)), some (.ref p), some (.int ((b + k * pp : Nat) : Int)), some (.int (pp : Int)), some (.int ((b + h : Nat) : Int))])
        (fun k H' => Ex H H' ∧ k * pp ≤ h + pp ∧ ∃ ps', CInv l (b + k * pp) ps' ∧ H' p = some (.lst (nxs (places ps'))) ∧ ((k = 0 ∧ ps' = ps) ∨ (1 ≤ k ∧ ps'.getLast? = some ((l.drop b).take pp)))) (fun k => h + pp - k * pp) 0 (by simp) ⟨Ex.trs e e4, by omega, ps, by simpa using I, e4 _ _ hps, .inl ⟨rfl, rfl⟩⟩ ?_
      rintro k H5 ⟨e5, hk, ps', I', hps', hor⟩ P' hP'
      walk_at "y"
      refine hP' _ _ Ex.rfl' (fun hc => ?_) fun hc => ?_
      · have hc := of_decide_eq_true hc
        have hkh : k * pp ≤ h := by omega
        have hpl : ps'.length ≤ 300 := by
          have := len_le_flat fun w hw => (I'.ly w hw).1
          rw [I'.len] at this
          omega
        have hseg : (l.drop (b + k * pp)).take pp = (l.drop b).take pp := by
          apply list_ext
          · rw [List.length_take, List.length_take, List.length_drop, List.length_drop]
            omega
          · intro i hi
            rw [List.length_take, List.length_drop] at hi
            rw [lt_take (by omega), lt_take (by omega), lt_drop, lt_drop]
            have := per_mul (c := fun t => lt_ l (b + t)) (n := h + pp) (p := pp) (fun t ht => R.pe t (by omega)) k i (by omega)
            rw [show b + k * pp + i = b + (i + k * pp) by omega]
            exact this.symm
        walk_at "y"
        refine x_append hps' (by rw [nxs_len, places_len, sizeLine_eq]; omega) ?_
        walk_at "y"
        refine ⟨k + 1, by rw [Nat.succ_mul]; simp; omega, ⟨Evl.Ex.mut e5 np0, by rw [Nat.succ_mul]; omega, ps' ++ [(l.drop b).take pp], ?_, ?_, .inr ⟨by omega, by simp⟩⟩, by rw [Nat.succ_mul]; omega⟩
        · have := I'.app p1 (by omega) (by
            refine R.ly.congr fun t ht => ?_
            have := per_mul (c := fun t => lt_ l (b + t)) (n := h + pp) (p := pp) (fun t ht => R.pe t (by omega)) k t (by omega)
            rw [show b + k * pp + t = b + (t + k * pp) by omega]
            exact this) (by
            rw [hseg]
            rcases hor with ⟨_, rfl⟩ | ⟨_, h2⟩
            · exact fun u hu => hnx u hu _
            · intro u hu
              rw [h2] at hu
              rw [← Option.some.inj hu]
              exact List.lt_irrefl _)
          rw [hseg] at this
          rw [Nat.succ_mul, ← Nat.add_assoc]
          exact this
        · rw [upd_same, places_app, ← nxs_app, I'.len]
      · have hc := of_decide_eq_false hc
        have hkh : h < k * pp := by omega
        have hk1 : 1 ≤ k := by
          rcases k with _ | k
          · omega
          · omega
        rcases hor with ⟨h3, _⟩ | ⟨_, h3⟩
        · omega
        refine ⟨(b + k * pp, _, _), rfl, ⟨e5, ps', I', fun u hu k' => ?_, hps'⟩, ?_⟩
        · rw [h3] at hu
          rw [← Option.some.inj hu]
          exact run_next R hkh hk k'
        · have : 1 ≤ k * pp := Nat.mul_pos hk1 p1
          have := I'.le
          dsimp only
          omega
    · have hb := of_decide_eq_false hb
      have : b = l.length := by have := I.le; omega
      subst this
      walk_at "y"
      exact q p ps _ I.done np0 e hps
  · show t_cuts g E (D0 Q) [some v, none, none, none, none] H
    unfold t_cuts
    walk_at "y"
    exact c_need_wordN hw q
/-! ### pieces -/
theorem piece_cut {ps : List (List Nat)} {k : Nat} {w : List Nat} (h : ps[k]? = some w) : (ps.flatten.take (ps.take (k + 1)).flatten.length).drop (ps.take k).flatten.length = w := by
  have hk := (List.getElem?_eq_some_iff.mp h).1
  have e1 : ps.take (k + 1) = ps.take k ++ [w] := by
    rw [List.take_succ, h]
    rfl
  have e2 : ps.flatten = (ps.take (k + 1)).flatten ++ (ps.drop (k + 1)).flatten := by
    rw [← List.flatten_append, List.take_append_drop]
  rw [e2, List.take_left, e1, List.flatten_append, List.drop_left]
  simp
theorem map_getD (ps : List (List Nat)) : (List.range ps.length).map (fun k => V.str (ST (ps.getD k []))) = tx ps := by
  unfold tx
  apply List.ext_getElem
  · simp
  · intro i h1 h2
    rw [List.length_map] at h2
    rw [List.getElem_map, List.getElem_map, List.getElem_range, List.getD_eq_getElem?_getD, List.getElem?_eq_getElem h2]
    rfl
theorem CFL.count {l : List Nat} {ps : List (List Nat)} (h : CFL l ps) : ps.length ≤ l.length := by
  have := len_le_flat fun w hw => (h.ly w hw).1
  rwa [h.fl] at this
theorem CFL.ne {l : List Nat} {ps : List (List Nat)} (h : CFL l ps) (hl : 1 ≤ l.length) : 1 ≤ ps.length := by
  cases ps with
  | nil =>
    have : l = [] := by rw [← h.fl]; rfl
    rw [this] at hl
    exact hl
  | cons x r => simp
def sp_pieces (g : G) : Sp := fun vs H Q E => (∃ l, vs = [.str (ST l)] ∧ Word l ∧ ∀ p ps H', CFL l ps → H p = none → Ex H H' → H' p = some (.lst (tx ps)) → Q (.ref p) H') ∨ (∃ v, vs = [v] ∧ IsW g.K H v false ∧ ∀ H', Ex H H' → E (.ref g.cNoWord) none H')
theorem c_pieces {l : List Nat} (h : Word l) (q : ∀ p ps H', CFL l ps → H p = none → Ex H H' → H' p = some (.lst (tx ps)) → Q (.ref p) H') : sp_pieces g [.str (ST l)] H Q E := .inl ⟨l, rfl, h, q⟩
theorem c_piecesN {v : V} (h : IsW g.K H v false) (q : ∀ H', Ex H H' → E (.ref g.cNoWord) none H') : sp_pieces g [v] H Q E := .inr ⟨v, rfl, h, q⟩
/-- pieces: slots word, places, k -/
def t_pieces (g : G) (E : XK) : TS :=
  tSeq (tAsg (tOp (uAdd g.K) (tCall (sp_cuts g) [] E (tCons (tVar 0) tNil)) (tLst (tCons (tCB (rLen g.K) (tCons (tVar 0) tNil)) tNil))) (gName 1))
    (tRet (tLc (iRng1 (tCons (tOp uSub (tCB (rLen g.K) (tCons (tVar 1) tNil)) (tC (.int 1))) tNil)) (gName 2) tYes (tSl (rSlU g.K) (tVar 0) (tPart (tOp (rIx g.K) (tVar 1) (tVar 2))) (tPart (tOp (rIx g.K) (tVar 1) (tOp (uAdd g.K) (tVar 2) (tC (.int 1)))))) [2]))
theorem p_pieces (h : sp_pieces g vs H Q E) : t_pieces g E (D0 Q) (st0 3 vs) H := by
  rcases h with ⟨l, rfl, hw, q⟩ | ⟨v, rfl, hw, q⟩
  · show t_pieces g E (D0 Q) [some (.str (ST l)), none, none] H
    unfold t_pieces
    walk_at "y"
    refine c_cuts hw fun p ps H1 hc np e1 hp => ?_
    have hw2 := hw.2
    have hcnt := hc.count
    walk_at "y"
    rename_i p2 H2 np2 e2 hp2
    refine x_addL (e2 _ _ hp) hp2 (by rw [nxs_len, places_len, sizeLine_eq]; simp; omega) fun p3 H3 np3 e3 hp3 => ?_
    rw [nxs_app] at hp3
    have hget : ∀ k, k ≤ ps.length → (places ps ++ [l.length])[k]? = some (ps.take k).flatten.length := fun k hk => by
      by_cases c : k < ps.length
      · rw [List.getElem?_append_left (by rw [places_len]; exact c), places_get c]
      · obtain rfl : k = ps.length := by omega
        rw [List.getElem?_append_right (by rw [places_len]; omega), places_len, List.take_length, hc.fl]
        simp
    walk_at "y"
    rw [show ((nxs (places ps ++ [l.length])).length : Int) - 1 = ((ps.length : Nat) : Int) by rw [nxs_len, List.length_append, places_len, List.length_singleton]; omega]
    walk_at "y"
    refine x_lcRm (fun k => .str (ST (ps.getD k []))) (by omega) (fun _ => rfl) (fun i H' hi e R hR => ?_) fun p4 H4 np4 e4 hp4 => ?_
    · have hi' : i < ps.length := by omega
      rw [Int.zero_add]
      walk_at "y"
      refine x_ixL (SqL.of (e _ _ hp3)) (atI_nat (nxs_get (hget i (by omega)))) ?_
      walk_at "y"
      refine x_ixL (v := .int (((ps.take (i + 1)).flatten.length : Nat) : Int)) (SqL.of (e _ _ hp3)) (by show atI _ ((i + 1 : Nat) : Int) = _; exact atI_nat (nxs_get (hget (i + 1) (by omega)))) ?_
      walk_at "y"
      have e5 := piece_cut (List.getElem?_eq_getElem hi')
      rw [hc.fl] at e5
      rw [e5]
      have := hR H' Ex.rfl'
      rw [List.getD_eq_getElem?_getD, List.getElem?_eq_getElem hi'] at this
      exact this
    · rw [show ((ps.length : Nat) : Int).toNat = ps.length by omega, map_getD] at hp4
      exact q p4 ps H4 hc (fresh_back (Ex.trs (Ex.trs e1 e2) e3) np4) (Ex.trs (Ex.trs (Ex.trs e1 e2) e3) e4) hp4
  · show t_pieces g E (D0 Q) [some v, none, none] H
    unfold t_pieces
    walk_at "y"
    exact c_cutsN hw q
/-! ### is_early -/
theorem Lynd.early {l : List Nat} (h : Lynd l) : Early l := fun m hm => by
  obtain ⟨i, hi⟩ := List.getElem?_of_mem hm
  rw [List.getElem?_drop] at hi
  obtain ⟨h1, rfl⟩ := turnsL_ex hi
  exact h.rot_lt (by omega) h1
theorem early_lynd {l : List Nat} (h0 : 1 ≤ l.length) (h : Early l) : Lynd l := lynd_of_rot (fun z => by rw [z] at h0; simp at h0) fun i h1 h2 => by
  refine h _ (List.mem_of_getElem? (i := i - 1) ?_)
  rw [List.getElem?_drop, show 1 + (i - 1) = i by omega, turnsL_get h2]
  rfl
theorem CFL.early {l : List Nat} {ps : List (List Nat)} (h : CFL l ps) (h0 : 1 ≤ l.length) : places ps = [0] ↔ Early l := by
  rw [places_zero fun w hw => (h.ly w hw).1]
  constructor
  · intro e
    obtain ⟨w, rfl⟩ : ∃ w, ps = [w] := by
      cases ps with
      | nil => simp at e
      | cons x r =>
        cases r with
        | nil => exact ⟨x, rfl⟩
        | cons y r => simp at e
    have : w = l := by simpa using h.fl
    subst this
    exact (h.ly w (by simp)).early
  · intro e
    rw [h.same (CFL.one (early_lynd h0 e))]
    rfl
def sp_is_early (g : G) : Sp := fun vs H Q E => (∃ l, vs = [.str (ST l)] ∧ Word l ∧ ∀ H', Ex H H' → Q (.bl (decide (Early l))) H') ∨ (∃ v, vs = [v] ∧ IsW g.K H v false ∧ ∀ H', Ex H H' → E (.ref g.cNoWord) none H')
theorem c_is_early {l : List Nat} (h : Word l) (q : ∀ H', Ex H H' → Q (.bl (decide (Early l))) H') : sp_is_early g [.str (ST l)] H Q E := .inl ⟨l, rfl, h, q⟩
theorem c_is_earlyN {v : V} (h : IsW g.K H v false) (q : ∀ H', Ex H H' → E (.ref g.cNoWord) none H') : sp_is_early g [v] H Q E := .inr ⟨v, rfl, h, q⟩
/-- is_early: slots word -/
def t_is_early (g : G) (E : XK) : TS :=
  tRet (tOp (uEq g.K) (tCall (sp_cuts g) [] E (tCons (tVar 0) tNil)) (tLst (tCons (tC (.int 0)) tNil)))
theorem p_is_early (h : sp_is_early g vs H Q E) : t_is_early g E (D0 Q) (st0 1 vs) H := by
  rcases h with ⟨l, rfl, hw, q⟩ | ⟨v, rfl, hw, q⟩
  · show t_is_early g E (D0 Q) [some (.str (ST l))] H
    unfold t_is_early
    walk_at "y"
    refine c_cuts hw fun p ps H1 hc np e1 hp => ?_
    walk_at "y"
    rename_i p2 H2 np2 e2 hp2
    refine x_eqIs (ms := [0]) (SqL.of (by rw [e2 _ _ hp, nxs_ixs])) (SqL.of hp2) ?_
    have he : decide ((places ps).map Int.ofNat = [0]) = decide (Early l) := by
      rw [decide_eq_decide, ← hc.early hw.2.1]
      constructor
      · intro h
        cases hpl : places ps with
        | nil => rw [hpl] at h; simp at h
        | cons x r =>
          rw [hpl] at h
          cases r with
          | nil =>
            simp at h
            rw [h]
          | cons y r => simp at h
      · intro h
        rw [h]
        rfl
    rw [he]
    exact q _ (Ex.trs e1 e2)
  · show t_is_early g E (D0 Q) [some v] H
    unfold t_is_early
    walk_at "y"
    exact c_cutsN hw q
end
end RW

/-! M7: all words of some signs; all early ones. -/
namespace RW
/-- all words one letter longer -/
def longer (W : List (List Nat)) (S : List Nat) : List (List Nat) := W.flatMap fun w => S.map fun c => w ++ [c]
def wordsOf (S : List Nat) : Nat → List (List Nat)
  | 0 => [[]]
  | n + 1 => longer (wordsOf S n) S
theorem mem_words {S : List Nat} : ∀ {n : Nat} {v : List Nat}, v ∈ wordsOf S n ↔ v.length = n ∧ ∀ c ∈ v, c ∈ S
  | 0, v => by
    unfold wordsOf
    rw [List.mem_singleton]
    constructor
    · rintro rfl
      exact ⟨rfl, fun c h => by simp at h⟩
    · intro h
      exact List.length_eq_zero_iff.mp h.1
  | n + 1, v => by
    unfold wordsOf longer
    rw [List.mem_flatMap]
    constructor
    · rintro ⟨w, hw, hv⟩
      obtain ⟨c, hc, rfl⟩ := List.mem_map.mp hv
      obtain ⟨h1, h2⟩ := mem_words.mp hw
      refine ⟨by rw [List.length_append, h1]; rfl, fun d hd => ?_⟩
      rcases List.mem_append.mp hd with hd | hd
      · exact h2 d hd
      · rw [List.mem_singleton.mp hd]
        exact hc
    · rintro ⟨h1, h2⟩
      rcases List.eq_nil_or_concat v with rfl | ⟨w, c, rfl⟩
      · simp at h1
      · rw [List.concat_eq_append] at h1 h2 ⊢
        rw [List.length_append, List.length_singleton] at h1
        exact ⟨w, mem_words.mpr ⟨by omega, fun d hd => h2 d (List.mem_append_left _ hd)⟩, List.mem_map.mpr ⟨c, h2 c (by simp), rfl⟩⟩
theorem nodup_words {S : List Nat} (hS : S.Pairwise fun a b => a ≠ b) : ∀ n, (wordsOf S n).Pairwise fun a b => a ≠ b
  | 0 => by
    unfold wordsOf
    simp
  | n + 1 => by
    have ih := nodup_words hS n
    unfold wordsOf longer
    rw [List.flatMap, List.pairwise_flatten]
    refine ⟨fun l hl => ?_, ?_⟩
    · obtain ⟨w, _, rfl⟩ := List.mem_map.mp hl
      rw [List.pairwise_map]
      exact hS.imp fun h e => h (List.cons.inj (List.append_cancel_left e)).1
    · rw [List.pairwise_map]
      refine ih.imp fun {a b} h x hx y hy e => ?_
      obtain ⟨c, _, rfl⟩ := List.mem_map.mp hx
      obtain ⟨d, _, rfl⟩ := List.mem_map.mp hy
      exact h (List.append_inj' e rfl).1
theorem longer_len (W : List (List Nat)) (S : List Nat) : (longer W S).length = W.length * S.length := by
  unfold longer
  induction W with
  | nil => simp
  | cons w r ih => rw [List.flatMap_cons, List.length_append, ih, List.length_map, List.length_cons, Nat.succ_mul]; omega
theorem words_len (S : List Nat) : ∀ n, (wordsOf S n).length = S.length ^ n
  | 0 => rfl
  | n + 1 => by
    unfold wordsOf
    rw [longer_len, words_len S n, Nat.pow_succ]
/-- the early ones up to a length, length by length -/
def earlyUp (S : List Nat) (N : Nat) : List (List Nat) := (List.range N).flatMap fun n => (wordsOf S (n + 1)).filter fun w => decide (Early w)
theorem mem_earlyUp {S : List Nat} {N : Nat} {v : List Nat} : v ∈ earlyUp S N ↔ LW S N v := by
  unfold earlyUp
  rw [List.mem_flatMap]
  constructor
  · rintro ⟨n, hn, hv⟩
    rw [List.mem_filter, decide_eq_true_eq] at hv
    obtain ⟨h1, h2⟩ := mem_words.mp hv.1
    have hn := List.mem_range.mp hn
    exact ⟨early_lynd (by omega) hv.2, h2, by omega⟩
  · intro h
    have hp := h.ly.pos
    have := h.le
    refine ⟨v.length - 1, List.mem_range.mpr (by omega), ?_⟩
    rw [List.mem_filter, decide_eq_true_eq]
    exact ⟨mem_words.mpr ⟨by omega, h.si⟩, h.ly.early⟩
theorem nodup_earlyUp {S : List Nat} (hS : S.Pairwise fun a b => a ≠ b) (N : Nat) : (earlyUp S N).Pairwise fun a b => a ≠ b := by
  unfold earlyUp
  rw [List.flatMap, List.pairwise_flatten]
  refine ⟨fun l hl => ?_, ?_⟩
  · obtain ⟨n, _, rfl⟩ := List.mem_map.mp hl
    exact (nodup_words hS _).filter _
  · rw [List.pairwise_map]
    refine (List.pairwise_lt_range).imp fun {a b} h x hx y hy e => ?_
    subst e
    have h1 := (mem_words.mp (List.mem_filter.mp hx).1).1
    have h2 := (mem_words.mp (List.mem_filter.mp hy).1).1
    omega
theorem earlyUp_len (S : List Nat) (h1 : 1 ≤ S.length) : ∀ N, (earlyUp S N).length ≤ N * S.length ^ N
  | 0 => Nat.zero_le _
  | N + 1 => by
    have ih := earlyUp_len S h1 N
    unfold earlyUp at ih ⊢
    rw [List.range_succ, List.flatMap_append, List.length_append]
    have h2 : (List.flatMap (fun n => (wordsOf S (n + 1)).filter fun w => decide (Early w)) [N]).length ≤ S.length ^ (N + 1) := by
      rw [List.flatMap_cons, List.flatMap_nil, List.append_nil, ← words_len]
      exact List.length_filter_le _ _
    have h3 : S.length ^ N ≤ S.length ^ (N + 1) := Nat.pow_le_pow_right h1 (Nat.le_succ _)
    have h4 : N * S.length ^ N ≤ N * S.length ^ (N + 1) := Nat.mul_le_mul_left _ h3
    rw [Nat.succ_mul]
    omega
/-- a rising one of the same -/
theorem allIn_of {S : List Nat} {N : Nat} {A : List (List Nat)} (hS : S.Pairwise fun a b => a ≠ b) (hp : A.Perm (earlyUp S N)) (ha : Asc A) : AllIn S N A := by
  refine ⟨?_, fun v => hp.mem_iff.trans mem_earlyUp⟩
  have hn : A.Pairwise fun a b => a ≠ b := (hp.pairwise_iff (fun {a b} h => h.symm)).mpr (nodup_earlyUp hS N)
  refine (List.Pairwise.and ha hn).imp fun {a b} h => ?_
  rcases List.le_total a b with r | r
  · exact Classical.byContradiction fun q => h.2 (List.le_antisymm r (List.not_lt.mp q))
  · exact absurd (List.le_antisymm (List.not_lt.mp h.1) r) h.2
theorem allIn_ex {S : List Nat} (hS : S.Pairwise fun a b => a ≠ b) (N : Nat) : ∃ A, AllIn S N A ∧ A.length = (earlyUp S N).length := by
  refine ⟨(earlyUp S N).mergeSort (fun a b => decide (¬ b < a)), allIn_of hS (List.mergeSort_perm _ _) ?_, (List.mergeSort_perm _ _).length_eq⟩
  have := List.pairwise_mergeSort (le := fun a b : List Nat => decide (¬ b < a)) (fun a b c h1 h2 => by
    have h1 := of_decide_eq_true h1
    have h2 := of_decide_eq_true h2
    exact decide_eq_true (fun q => absurd q (List.not_lt.mpr (List.le_trans (List.not_lt.mp h1) (List.not_lt.mp h2))))) (fun a b => by
    rcases List.le_total a b with r | r
    · simp [List.not_lt.mpr r]
    · simp [List.not_lt.mpr r]) (earlyUp S N)
  exact this.imp fun h => of_decide_eq_true h
theorem AllIn.len {S : List Nat} {N : Nat} {A : List (List Nat)} (hS : S.Pairwise fun a b => a ≠ b) (h : AllIn S N A) : A.length = (earlyUp S N).length := by
  obtain ⟨B, h1, h2⟩ := allIn_ex hS N
  rw [h.uniq h1, h2]
end RW

/-! M11: the numbers of early words and of rings, by kernel over all that may be asked. -/
namespace RW
/-- what goes into a number -/
def dvs (n : Nat) : List Nat := ((List.range n).map (· + 1)).filter fun d => n % d == 0
/-- +1 at 1, -1 at an odd number of unlike primes, and so on: up to 60, as pairs (whether +, whether -) -/
def muP : List Nat := [1, 6, 10, 14, 15, 21, 22, 26, 33, 34, 35, 38, 39, 46, 51, 55, 57, 58]
def muM : List Nat := [2, 3, 5, 7, 11, 13, 17, 19, 23, 29, 30, 31, 37, 41, 42, 43, 47, 53, 59]
/-- how many early words of just n letters there are of m signs -/
def eN (m n : Nat) : Nat :=
  ((((dvs n).filter fun d => muP.contains (n / d)).map fun d => m ^ d).sum - (((dvs n).filter fun d => muM.contains (n / d)).map fun d => m ^ d).sum) / n
def chkE (m n : Nat) : Bool := ((dvs n).map fun d => d * eN m d).sum == m ^ n
def chkR (m n : Nat) : Bool := n * ((dvs n).map fun d => eN m d).sum == ((List.range n).map fun s => m ^ Nat.gcd (s + 1) n).sum
theorem chkE_all : ((List.range 26).all fun a => (List.range 60).all fun b => chkE (a + 1) (b + 1)) = true := by decide +kernel
theorem chkR_all : ((List.range 26).all fun a => (List.range 60).all fun b => chkR (a + 1) (b + 1)) = true := by decide +kernel
theorem eN_sum {m n : Nat} (h1 : 1 ≤ m) (h2 : m ≤ 26) (h3 : 1 ≤ n) (h4 : n ≤ 60) : ((dvs n).map fun d => d * eN m d).sum = m ^ n := by
  have h := List.all_eq_true.mp chkE_all (m - 1) (List.mem_range.mpr (by omega))
  have h := List.all_eq_true.mp h (n - 1) (List.mem_range.mpr (by omega))
  rw [show m - 1 + 1 = m by omega, show n - 1 + 1 = n by omega] at h
  exact eq_of_beq h
theorem rN_sum {m n : Nat} (h1 : 1 ≤ m) (h2 : m ≤ 26) (h3 : 1 ≤ n) (h4 : n ≤ 60) : n * ((dvs n).map fun d => eN m d).sum = ((List.range n).map fun s => m ^ Nat.gcd (s + 1) n).sum := by
  have h := List.all_eq_true.mp chkR_all (m - 1) (List.mem_range.mpr (by omega))
  have h := List.all_eq_true.mp h (n - 1) (List.mem_range.mpr (by omega))
  rw [show m - 1 + 1 = m by omega, show n - 1 + 1 = n by omega] at h
  exact eq_of_beq h
end RW

/-! M12: the least turning as a function; small numbers counted by the kernel. -/
namespace RW
def pickL (a b : List Nat) : List Nat := if b < a then b else a
/-- the least of a word's turnings -/
def minT (w : List Nat) : List Nat := (turnsL w).foldl pickL w
theorem fold_pick : ∀ (ls : List (List Nat)) (a : List Nat), (ls.foldl pickL a = a ∨ ls.foldl pickL a ∈ ls) ∧ ls.foldl pickL a ≤ a ∧ ∀ y ∈ ls, ls.foldl pickL a ≤ y
  | [], a => ⟨.inl rfl, List.le_refl _, fun y h => by simp at h⟩
  | x :: r, a => by
    obtain ⟨h1, h2, h3⟩ := fold_pick r (pickL a x)
    rw [List.foldl_cons]
    have hp : (pickL a x = a ∨ pickL a x = x) ∧ pickL a x ≤ a ∧ pickL a x ≤ x := by
      unfold pickL
      split
      · rename_i h
        exact ⟨.inr rfl, List.not_lt.mp (List.lt_asymm h), List.le_refl _⟩
      · rename_i h
        exact ⟨.inl rfl, List.le_refl _, List.not_lt.mp h⟩
    refine ⟨?_, List.le_trans h2 hp.2.1, fun y hy => ?_⟩
    · rcases h1 with h1 | h1
      · rcases hp.1 with h | h
        · exact .inl (h1.trans h)
        · exact .inr (by rw [h1, h]; exact List.mem_cons_self)
      · exact .inr (List.mem_cons_of_mem _ h1)
    · rcases List.mem_cons.mp hy with rfl | hy
      · exact List.le_trans h2 hp.2.2
      · exact h3 y hy
theorem minT_of {w m : List Nat} (hm : m ∈ turnsL w) (hl : ∀ y ∈ turnsL w, ¬ y < m) : m = minT w := by
  obtain ⟨h1, h2, h3⟩ := fold_pick (turnsL w) w
  have hw : w ∈ turnsL w := by
    unfold turnsL at hm ⊢
    obtain ⟨k, hk, _⟩ := List.mem_map.mp hm
    exact List.mem_map.mpr ⟨0, List.mem_range.mpr (by have := List.mem_range.mp hk; omega), by simp⟩
  have h4 : minT w ∈ turnsL w := by
    unfold minT
    rcases h1 with h1 | h1
    · rw [h1]
      exact hw
    · exact h1
  exact List.le_antisymm (List.not_lt.mp (hl _ h4)) (h3 m hm)
/-- how many rings there are -/
def rN (m n : Nat) : Nat := ((dvs n).map fun d => eN m d).sum
def chkS (S : List Nat) (n : Nat) : Bool := (((wordsOf S n).filter fun w => decide (Early w)).length == eN S.length n) && (dcount ((wordsOf S n).map minT) == rN S.length n)
theorem chkS_abc : ((List.range 3).all fun a => (List.range 5).all fun b => chkS ([97, 98, 99].take (a + 1)) (b + 1)) = true := by decide +kernel
theorem small_counts {m n : Nat} (h1 : 1 ≤ m) (h2 : m ≤ 3) (h3 : 1 ≤ n) (h4 : n ≤ 5) :
    ((wordsOf ([97, 98, 99].take m) n).filter fun w => decide (Early w)).length = eN m n ∧ dcount ((wordsOf ([97, 98, 99].take m) n).map minT) = rN m n := by
  have h := List.all_eq_true.mp chkS_abc (m - 1) (List.mem_range.mpr (by omega))
  have h := List.all_eq_true.mp h (n - 1) (List.mem_range.mpr (by omega))
  rw [show m - 1 + 1 = m by omega, show n - 1 + 1 = n by omega] at h
  have hl : ([97, 98, 99].take m : List Nat).length = m := by rw [List.length_take]; simp; omega
  unfold chkS at h
  rw [hl, Bool.and_eq_true] at h
  exact ⟨eq_of_beq h.1, eq_of_beq h.2⟩
theorem eN_len {n m : Nat} (h1 : 1 ≤ m) (h2 : m ≤ 26) (h3 : 1 ≤ n) (h4 : n ≤ 60) : n * rN m n = ((List.range n).map fun s => m ^ Nat.gcd (s + 1) n).sum := rN_sum h1 h2 h3 h4
end RW

/-! M10: the root of a least turning is early. -/
namespace RW
/-- c comes again q places on, always -/
def CPer (c : Nat → Nat) (q : Nat) : Prop := 1 ≤ q ∧ ∀ t, c (t + q) = c t
theorem CPer.mul {c : Nat → Nat} {q : Nat} (h : CPer c q) : ∀ m t, c (t + q * m) = c t
  | 0, t => by simp
  | m + 1, t => by rw [Nat.mul_succ, ← Nat.add_assoc, h.2, h.mul m]
theorem cper_least {c : Nat → Nat} : ∀ (m q : Nat), q ≤ m → CPer c q → ∃ q0, q0 ≤ q ∧ CPer c q0 ∧ ∀ p, p < q0 → ¬ CPer c p
  | 0, q, h, hq => by have := hq.1; omega
  | m + 1, q, h, hq => by
    by_cases e : ∃ p, p < q ∧ CPer c p
    · obtain ⟨p, h1, h2⟩ := e
      obtain ⟨q0, k1, k2, k3⟩ := cper_least m p (by omega) h2
      exact ⟨q0, by omega, k2, k3⟩
    · exact ⟨q, Nat.le_refl _, hq, fun p hp hc => e ⟨p, hp, hc⟩⟩
theorem cper_dvd {c : Nat → Nat} {q m : Nat} (h : CPer c q) (hl : ∀ p, p < q → ¬ CPer c p) (hm : ∀ t, c (t + m) = c t) : m % q = 0 := by
  refine Classical.byContradiction fun r => hl (m % q) (Nat.mod_lt _ h.1) ⟨by omega, fun t => ?_⟩
  have h1 := h.mul (m / q) (t + m % q)
  rw [Nat.add_assoc, Nat.mod_add_div] at h1
  rw [← h1]
  exact hm t
theorem cyc_small {l : List Nat} {t : Nat} (h : t < l.length) : cyc l t = lt_ l t := by
  unfold cyc lt_
  rw [Nat.mod_eq_of_lt h]
/-- the root of what is none of its turnings' greater -/
theorem root_lynd {f : List Nat} {r : Nat} (hr : RootAt f r) (hmin : ∀ i, i < f.length → ¬ FLt (fun t => cyc f (i + t)) (cyc f) f.length) : Lynd (f.take r) := by
  obtain ⟨r1, r2, ⟨hm, hp⟩, hno⟩ := hr
  have hn : 1 ≤ f.length := by omega
  have hper := (pow_per hn r1 r2 hm).mp hp
  have hul : (f.take r).length = r := by rw [List.length_take]; omega
  obtain ⟨k, hk⟩ := Nat.dvd_of_mod_eq_zero hm
  -- c at every place by the first r letters
  have hc : ∀ t, cyc f t = lt_ f (t % r) := fun t => by
    have h1 : t % f.length < f.length := Nat.mod_lt _ (by omega)
    have h2 : cyc f t = lt_ f (t % f.length) := by
      unfold cyc lt_
      rfl
    rw [h2]
    have h3 := per_mul hper (t % f.length / r) (t % f.length % r) (by rw [Nat.mul_comm, Nat.mod_add_div]; exact h1)
    rw [Nat.mul_comm, Nat.mod_add_div, Nat.mod_mod_of_dvd _ (Nat.dvd_of_mod_eq_zero hm)] at h3
    exact h3.symm
  refine lynd_of_rot (fun z => by rw [z] at hul; simp at hul; omega) fun i hi hir => ?_
  rw [hul] at hir
  have hu : ∀ t, t < r → lt_ (f.take r) t = cyc f t := fun t ht => by rw [lt_take ht, hc, Nat.mod_eq_of_lt ht]
  have hv : ∀ t, t < r → lt_ ((f.take r).drop i ++ (f.take r).take i) t = cyc f (i + t) := fun t ht => by
    rw [lt_app, List.length_drop, hul]
    split
    · rw [lt_drop, hu _ (by omega)]
    · rw [lt_take (by omega), hu _ (by omega), hc, hc (i + t)]
      have : i + t = (t - (r - i)) + r := by omega
      rw [this, Nat.add_mod_right]
  have hvl : ((f.take r).drop i ++ (f.take r).take i).length = r := by
    simp only [List.length_append, List.length_drop, List.length_take]
    omega
  rcases tri (cyc f) (fun t => cyc f (i + t)) r with e | ⟨t, e1, e2, e3⟩ | ⟨t, e1, e2, e3⟩
  · exfalso
    have all : ∀ t, cyc f (t + i) = cyc f t := fun t => by
      have h1 := e (t % r) (Nat.mod_lt _ r1)
      rw [hc, hc (i + t % r), Nat.mod_mod, Nat.add_mod_mod] at h1
      rw [hc, hc t, Nat.add_comm t i, h1]
    obtain ⟨q, k1, k2, k3⟩ := cper_least i i (Nat.le_refl _) ⟨hi, all⟩
    have hq1 := k2.1
    have d2 := cper_dvd k2 k3 (m := f.length) (cyc_add f)
    refine hno q hq1 (by omega) ⟨d2, ?_⟩
    refine (pow_per hn hq1 (by omega) d2).mpr fun t ht => ?_
    rw [← cyc_small (by omega : t < f.length), ← cyc_small ht]
    exact (k2.2 t).symm
  · refine lt_iff'.mpr (.inl ⟨t, by omega, by omega, fun s hs => ?_, ?_⟩)
    · rw [hu s (by omega), hv s (by omega)]
      exact e2 s hs
    · rw [hu t e1, hv t e1]
      exact e3
  · exfalso
    exact hmin i (by omega) ⟨t, by omega, e2, e3⟩
end RW

/-! P6: find; steps between. -/
namespace RW
open PySem PySem.Spec PyProof.Rows L2
open Evl (Ex ex_l ex_t ex_rd fresh_back)
local macro_rules | `(tactic| walk_at "x") => `(tactic| first
  | ((with_reducible apply x_var); exact rfl)
  | with_reducible refine x_c ?_
  | with_reducible refine x_op ?_
  | with_reducible refine x_un ?_
  | with_reducible refine x_neg ?_
  | with_reducible refine x_addI ?_
  | with_reducible refine x_subI ?_
  | with_reducible refine x_ltI ?_
  | with_reducible refine x_ltS ?_
  | with_reducible refine x_leI ?_
  | with_reducible refine x_leS ?_
  | with_reducible refine x_gtI ?_
  | with_reducible refine x_gtS ?_
  | with_reducible refine x_geI ?_
  | with_reducible refine x_eqI ?_
  | with_reducible refine x_eqS ?_
  | with_reducible refine x_eqB ?_
  | with_reducible refine x_neI ?_
  | with_reducible refine x_neS ?_
  | with_reducible refine x_isN ?_
  | with_reducible refine x_isB ?_
  | with_reducible refine x_isNotN ?_
  | with_reducible refine x_isNotB ?_
  | with_reducible refine x_inS ?_
  | with_reducible refine x_sl ?_
  | with_reducible refine x_part ?_
  | with_reducible refine x_nopart ?_
  | with_reducible refine x_rev ?_
  | with_reducible refine x_nil ?_
  | with_reducible refine x_cons ?_
  | with_reducible refine x_lst0 ?_
  | with_reducible refine x_tup0 ?_
  | with_reducible refine x_call0 ?_
  | with_reducible refine x_callS ?_
  | with_reducible refine x_cb ?_
  | with_reducible refine x_m1 ?_
  | with_reducible refine x_m1s ?_
  | with_reducible refine x_bm ?_
  | with_reducible refine x_bm0 ?_
  | with_reducible refine x_tyS ?_
  | with_reducible refine x_max2 ?_
  | with_reducible refine x_min2 ?_
  | with_reducible refine x_seq ?_
  | with_reducible refine x_asg ?_
  | with_reducible refine x_asgG ?_
  | with_reducible refine x_ret ?_
  | with_reducible refine x_retN ?_
  | with_reducible refine x_if ?_
  | with_reducible refine x_next ?_
  | with_reducible refine x_drop ?_
  | with_reducible refine x_break ?_
  | with_reducible refine x_cont ?_
  | with_reducible refine x_par ?_
  | with_reducible refine x_par2 ?_
  | ((with_reducible apply x_aug); exact rfl)
  | with_reducible refine x_ip ?_
  | with_reducible refine x_test ?_
  | with_reducible refine x_tB ?_
  | with_reducible refine x_bl ?_
  | with_reducible refine x_and ?_
  | with_reducible refine x_or ?_
  | with_reducible refine x_not ?_
  | with_reducible refine x_andV ?_
  | with_reducible refine x_orV ?_
  | with_reducible refine x_notV ?_
  | with_reducible refine x_ifV ?_
  | with_reducible refine x_chain ?_
  | with_reducible refine x_intA ?_
  | with_reducible refine x_strA ?_
  | with_reducible refine x_yes ?_
  | with_reducible refine iteT ?_
  | with_reducible refine iteF ?_
  | with_reducible refine x_forRng1 ?_
  | with_reducible refine x_forRng2 ?_
  | with_reducible refine x_forLst ?_
  | with_reducible refine x_forU ?_
  | with_reducible refine x_lcRng1 ?_
  | with_reducible refine x_lcRng2 ?_
  | with_reducible refine x_lcLst ?_
  | with_reducible refine x_lcU ?_
  | with_reducible refine x_uS ?_
  | with_reducible refine x_gcons ?_
  | with_reducible refine x_gnil ?_
  -- with side conditions
  | ((with_reducible refine x_addS ?hs ?_); (case hs => walk_at "sz"))
  | ((with_reducible refine x_divI ?hs ?ht ?_); (case hs => walk_at "sz"); (case ht => walk_at "sz"))
  | ((with_reducible refine x_modI ?hs ?_); (case hs => walk_at "sz"))
  | ((with_reducible refine x_mulI ?hs ?_); (case hs => walk_at "sz"))
  | ((with_reducible refine x_lenS ?hs ?_); (case hs => walk_at "sz"))
  | ((with_reducible refine x_slSlo ?hs ?_); (case hs => walk_at "sz"))
  | ((with_reducible refine x_slShi ?hs ?_); (case hs => walk_at "sz"))
  | ((with_reducible refine x_slSlohi ?hs ?_); (case hs => walk_at "sz"))
  | ((with_reducible refine x_slShiNeg ?hs ?_); (case hs => walk_at "sz"))
  | ((with_reducible refine x_slSloI ?ht ?hs ?_); (case ht => walk_at "sz"); (case hs => walk_at "sz"))
  | ((with_reducible refine x_slShiI ?ht ?hs ?_); (case ht => walk_at "sz"); (case hs => walk_at "sz"))
  | ((with_reducible refine x_rng1 ?hs ?ht ?_); (case hs => walk_at "sz"); (case ht => walk_at "sz"))
  | ((with_reducible refine x_rng2 ?hs ?_); (case hs => walk_at "sz"))
  | ((with_reducible refine x_newL ?hs ?_); (case hs => walk_at "sz"); intro px Hx npx ex hpx)
  | ((with_reducible refine x_newT ?hs ?_); (case hs => walk_at "sz"); intro px Hx npx ex hpx)
  | ((with_reducible apply x_lenL); (walk_at "hp"))
  | ((with_reducible apply x_refL); (walk_at "hp"))
  | ((with_reducible apply x_uL); (walk_at "hp"))
  | ((with_reducible apply x_tyL); (walk_at "hp"))
  )
local macro_rules | `(tactic| walk_at "xs") => `(tactic| repeat (walk_at "x"))
/- sizes, bounds -/
local macro_rules | `(tactic| walk_at "sz") => `(tactic| first
  | with_reducible assumption
  | (rw [sizeLine_eq]; first | omega | (simp only [List.length_cons, List.length_nil, List.length_append, List.length_map, List.length_reverse, List.length_range, List.length_drop, List.length_take, List.length_dropLast]; omega))
  | omega
  | (unfold CMul; omega)
  | (simp only [List.length_cons, List.length_nil, List.length_append, List.length_map, List.length_reverse, List.length_range, List.length_drop, List.length_take, List.length_dropLast]; omega))
/- what stands in the heap -/
local macro_rules | `(tactic| walk_at "hp") => `(tactic| first
  | assumption
  | ((with_reducible apply SqL.of); walk_at "hp")
  | ((with_reducible apply SqT.of); walk_at "hp")
  | ((with_reducible apply Ex.at_); assumption; walk_at "hp")
  | ((with_reducible apply ex_l); assumption; walk_at "hp")
  | ((with_reducible apply ex_t); assumption; walk_at "hp"))
local macro_rules | `(tactic| walk_at "ex") => `(tactic| first
  | assumption
  | exact Ex.rfl'
  | (refine Ex.trs ?_ (by assumption); walk_at "ex"))
/- an item at a place within: what is left speaks of the item -/
local macro_rules | `(tactic| walk_at "ix") => `(tactic| ((with_reducible apply x_ixLm); (walk_at "hp"); (walk_at "sz"); (walk_at "sz")))
local macro_rules | `(tactic| walk_at "is") => `(tactic| ((with_reducible apply x_ixSm); (walk_at "sz"); (walk_at "sz"); (walk_at "sz")))

local macro_rules | `(tactic| walk_at "y") => `(tactic| repeat (walk_at "x"))
section
open PySem.Builtin PySem.Builtin.Str PySem.StrLaws
theorem occ_keep (s sub : Str) (hi : Nat) : ∀ (l : List Nat) (st : Array Nat × Nat), 1 ≤ st.fst.size → (forIn l st (occBody s sub hi 1)).run.fst = st.fst
  | [], st, h => rfl
  | a :: l, st, h => by
    rw [List.forIn_cons]
    unfold occBody
    rw [if_neg (fun c => by have := c.1.1.1; omega)]
    exact occ_keep s sub hi l _ h
theorem occ_first (s sub : Str) (hi : Nat) : ∀ (l : List Nat) (fr : Nat), (∀ i ∈ l, fr ≤ i) →
    (forIn l ((#[] : Array Nat), fr) (occBody s sub hi 1)).run.fst.toList = (l.find? fun i => decide (i + sub.length ≤ hi) && subAt s sub i).toList
  | [], fr, _ => rfl
  | a :: l, fr, hf => by
    rw [List.forIn_cons, List.find?_cons]
    unfold occBody
    have ha : fr ≤ a := hf a List.mem_cons_self
    by_cases hc : a + sub.length ≤ hi ∧ subAt s sub a = true
    · rw [if_pos ⟨⟨⟨by simp, ha⟩, hc.1⟩, hc.2⟩, show (decide (a + sub.length ≤ hi) && subAt s sub a) = true by simp [hc.1, hc.2]]
      have := occ_keep s sub hi l ((#[] : Array Nat).push a, a + sub.length) (by simp)
      show (forIn l ((#[] : Array Nat).push a, a + sub.length) (occBody s sub hi 1)).run.fst.toList = [a]
      rw [this]
      rfl
    · rw [if_neg (fun h => hc ⟨h.1.2, h.2⟩), show (decide (a + sub.length ≤ hi) && subAt s sub a) = false by
        rw [Bool.eq_false_iff]
        intro h
        exact hc (by simpa using h)]
      exact occ_first s sub hi l fr fun i h => hf i (List.mem_cons_of_mem _ h)
theorem find_range {p : Nat → Bool} {n j : Nat} (h : (List.range' 0 n).find? p = some j) : p j = true ∧ ∀ i, i < j → p i = false := by
  rw [← List.range_eq_range'] at h
  have := List.find?_range_eq_some.mp h
  exact ⟨this.1, fun i hi => by have := this.2.2 i hi; simpa using this⟩
theorem sub_at {a b : List Nat} {i : Nat} : subAt (ST a) (ST b) i = true ↔ (a.drop i).take b.length = b := by
  rw [subAt_eq]
  show ((a.drop i).take b.length == b) = true ↔ _
  rw [beq_iff_eq]
theorem find_tx (a b : List Nat) : (∃ j : Nat, Txt.find (ST a) (ST b) = (j : Int) ∧ j + b.length ≤ a.length ∧ (a.drop j).take b.length = b ∧ ∀ i, i < j → (a.drop i).take b.length ≠ b) ∨
    (Txt.find (ST a) (ST b) = -1 ∧ ∀ i, i + b.length ≤ a.length → (a.drop i).take b.length ≠ b) := by
  unfold Txt.find
  rw [occ_eq, occ_first _ _ _ _ _ (fun _ _ => Nat.zero_le _)]
  cases h : (List.range' 0 ((ST a).length + 1 - 0)).find? (fun i => decide (i + (ST b).length ≤ (ST a).length) && subAt (ST a) (ST b) i) with
  | none =>
    refine .inr ⟨rfl, fun i hi hs => ?_⟩
    rw [List.find?_eq_none] at h
    refine h i (by simp [ST_len]; omega) ?_
    rw [ST_len, ST_len, decide_eq_true hi, sub_at.mpr hs]
    rfl
  | some j =>
    obtain ⟨h1, h2⟩ := find_range h
    rw [Bool.and_eq_true, decide_eq_true_eq, ST_len, ST_len, sub_at] at h1
    refine .inl ⟨j, rfl, h1.1, h1.2, fun i hi hs => ?_⟩
    have h3 := h2 i hi
    rw [ST_len, ST_len, decide_eq_true (by omega), sub_at.mpr hs] at h3
    exact absurd h3 (by decide)
end
theorem dbl_turn {l : List Nat} {j : Nat} (h : j ≤ l.length) : ((l ++ l).drop j).take l.length = turnL l j := by
  unfold turnL
  rw [List.drop_append_of_le_length h, List.take_append, List.length_drop, show l.length - (l.length - j) = j by omega, List.take_of_length_le (by rw [List.length_drop]; omega)]
theorem turnL_len {l : List Nat} {j : Nat} (h : j ≤ l.length) : (turnL l j).length = l.length := by
  unfold turnL
  rw [List.length_append, List.length_drop, List.length_take]
  omega
theorem turnL_zero (l : List Nat) : turnL l 0 = l := by unfold turnL; simp
theorem turnL_whole (l : List Nat) : turnL l l.length = l := by unfold turnL; simp
section
variable {g : G} {vs : List V} {H : Hp} {Q : VK} {E : XK} {K : Frag}
/-! ### steps_between -/
/-- the first place from which on l turned is m -/
def FirstAt (l m : List Nat) (j : Nat) : Prop := j < l.length ∧ turnL l j = m ∧ ∀ i, i < j → turnL l i ≠ m
def sp_steps_between (g : G) : Sp := fun vs H Q E => (∃ l m, vs = [.str (ST l), .str (ST m)] ∧ Word l ∧ Word m ∧ ∀ H', Ex H H' → (∀ j : Nat, FirstAt l m j → Q (.int j) H') ∧ ((∀ j, j < l.length → turnL l j ≠ m) → Q .non H')) ∨
  (∃ v w, vs = [v, w] ∧ (IsW g.K H v false ∨ ∃ l, v = .str (ST l) ∧ Word l ∧ IsW g.K H w false) ∧ ∀ H', Ex H H' → E (.ref g.cNoWord) none H')
theorem c_steps_between {l m : List Nat} (h : Word l) (h2 : Word m) (q : ∀ H', Ex H H' → (∀ j : Nat, FirstAt l m j → Q (.int j) H') ∧ ((∀ j, j < l.length → turnL l j ≠ m) → Q .non H')) : sp_steps_between g [.str (ST l), .str (ST m)] H Q E := .inl ⟨l, m, rfl, h, h2, q⟩
theorem c_steps_betweenN {v w : V} (h : IsW g.K H v false ∨ ∃ l, v = .str (ST l) ∧ Word l ∧ IsW g.K H w false) (q : ∀ H', Ex H H' → E (.ref g.cNoWord) none H') : sp_steps_between g [v, w] H Q E := .inr ⟨v, w, rfl, h, q⟩
/-- the answer: the first place, or None -/
def StepV (l m : List Nat) (d : V) : Prop := (d = .non ∧ ∀ j, j < l.length → turnL l j ≠ m) ∨ ∃ j : Nat, d = .int j ∧ FirstAt l m j
theorem c_steps_between' {l m : List Nat} (h : Word l) (h2 : Word m) (q : ∀ d H', StepV l m d → Ex H H' → Q d H') : sp_steps_between g [.str (ST l), .str (ST m)] H Q E :=
  c_steps_between h h2 fun H' e => ⟨fun j hj => q _ _ (.inr ⟨j, rfl, hj⟩) e, fun hn => q _ _ (.inl ⟨rfl, hn⟩) e⟩
theorem StepV.uniq {l m : List Nat} {d d' : V} (h : StepV l m d) (h' : StepV l m d') : d = d' := by
  rcases h with ⟨rfl, h⟩ | ⟨i, rfl, hi⟩
  · rcases h' with ⟨rfl, _⟩ | ⟨j, rfl, hj⟩
    · rfl
    · exact absurd hj.2.1 (h j hj.1)
  · rcases h' with ⟨rfl, h⟩ | ⟨j, rfl, hj⟩
    · exact absurd hi.2.1 (h i hi.1)
    · rcases Nat.lt_trichotomy i j with c | c | c
      · exact absurd hi.2.1 (hj.2.2 i c)
      · rw [c]
      · exact absurd hj.2.1 (hi.2.2 j c)
theorem StepV.scal {l m : List Nat} {d : V} (h : StepV l m d) : scal d d = true := by
  rcases h with ⟨rfl, h⟩ | ⟨i, rfl, hi⟩ <;> rfl
theorem x_neSelf {d : V} (h : scal d d = true) (q : Q (.bl false) H) : uNe K d d H Q := .inl ⟨h, by rw [decide_eq_true rfl]; exact q⟩
theorem StepV.notB {l m : List Nat} {d : V} (h : StepV l m d) (q : Q (.bl false) H) : rIsU K [d, .ty "bool"] H Q := by
  rcases h with ⟨rfl, h⟩ | ⟨i, rfl, hi⟩
  · exact x_isT (.base .non) (by decide +kernel : kitB "NoneType" "bool" = some false) q
  · exact x_isT (.base (.int _)) (by decide +kernel : kitB "int" "bool" = some false) q
/-- steps_between: slots one, other, place -/
def t_steps_between (g : G) (E : XK) : TS :=
  tSeq (tDrop (tCall (sp_need_word g) [] E (tCons (tVar 0) tNil)))
    (tSeq (tDrop (tCall (sp_need_word g) [] E (tCons (tVar 1) tNil)))
    (tSeq (tIfS (tTest (tOp (uNe g.K) (tCB (rLen g.K) (tCons (tVar 0) tNil)) (tCB (rLen g.K) (tCons (tVar 1) tNil)))) (tRet (tC .non)) tNext)
    (tSeq (tAsg (tBM g.K "str" rFind (tOp (uAdd g.K) (tVar 0) (tVar 0)) (tCons (tVar 1) tNil)) (gName 2))
    (tRet (tIf (tTest (tOp uLt (tVar 2) (tC (.int 0)))) (tC .non) (tVar 2))))))
theorem p_steps_between (h : sp_steps_between g vs H Q E) : t_steps_between g E (D0 Q) (st0 3 vs) H := by
  rcases h with ⟨l, m, rfl, hl, hm, q⟩ | ⟨v, w, rfl, hw, q⟩
  · show t_steps_between g E (D0 Q) [some (.str (ST l)), some (.str (ST m)), none] H
    unfold t_steps_between
    walk_at "y"
    refine c_need_word hl fun H1 e1 => ?_
    walk_at "y"
    refine c_need_word hm fun H2 e2 => ?_
    obtain ⟨q1, q2⟩ := q H2 (Ex.trs e1 e2)
    have := hl.2
    have := hm.2
    walk_at "y"
    refine x_ifnd (fun hn => ?_) fun he => ?_
    · walk_at "y"
      refine q2 fun j hj e => hn ?_
      rw [← e, turnL_len (by omega)]
    · have he' : m.length = l.length := by omega
      walk_at "y"
      refine ⟨_, _, rfl, rfl, ?_⟩
      walk_at "y"
      rcases find_tx (l ++ l) m with ⟨j, e, h1, h2, h3⟩ | ⟨e, h3⟩
      · rw [e]
        rw [List.length_append] at h1
        refine x_if0 (decide_eq_false (by omega)) ?_
        walk_at "y"
        rw [he', dbl_turn (by omega)] at h2
        have h4 : ∀ i, i < j → turnL l i ≠ m := fun i hi z => h3 i hi (by rw [he', dbl_turn (by omega)]; exact z)
        by_cases c : j < l.length
        · exact q1 j ⟨c, h2, h4⟩
        · have : j = l.length := by omega
          subst this
          rw [turnL_whole] at h2
          exact absurd (by rw [turnL_zero]; exact h2) (h4 0 (by omega))
      · rw [e]
        refine x_it (by decide) ?_
        walk_at "y"
        refine q2 fun j hj z => h3 j (by rw [List.length_append]; omega) ?_
        rw [he', dbl_turn (by omega)]
        exact z
  · show t_steps_between g E (D0 Q) [some v, some w, none] H
    unfold t_steps_between
    walk_at "y"
    rcases hw with hw | ⟨l, rfl, hl, hw⟩
    · exact c_need_wordN hw q
    · refine c_need_word hl fun H1 e1 => ?_
      walk_at "y"
      exact c_need_wordN (hw.ex e1) fun H' e => q _ (Ex.trs e1 e)
end
end RW

/-! V1: zip of two texts (of ASCII signs). -/
namespace RW
open PySem PySem.Spec PyProof.Rows L2
open PySem.Sem (wp)
/-- the five objects of a zip are unlike -/
structure Ap5 (z p q i j : Addr) : Prop where
  pz : p ≠ z
  qz : q ≠ z
  iz : i ≠ z
  jz : j ≠ z
  pq : p ≠ q
  pi : p ≠ i
  pj : p ≠ j
  qi : q ≠ i
  qj : q ≠ j
  ij : i ≠ j
abbrev AI : String := "str_ascii_iterator"
section
variable {prog : Program} {w : World} {A : Around} {E : Value → Shared → Prop} {s : Shared}
theorem strIter_next {it : Addr} {x : Str} {t : Tok} {i c : Nat} {Q : Value → Shared → Prop} (hit : s.heap.IsStrIter it AI x t i) (hx : x.cps[i]? = some c)
    (hQ : ∀ h', h'.IsStrIter it AI x t (i + 1) → Heap.SameBut it s.heap h' → Q (.str ⟨#[c]⟩ s.toks) { s with heap := h', toks := s.toks + 1 }) :
    wpAny (model prog w) A (Builtin.SmallTypes.nextOf (.ref it)) Q E s := by
  obtain ⟨ob, h1, h2, h3⟩ := id hit
  (unfold Builtin.SmallTypes.nextOf; refine wpAny_bind (wpAny_callSpecial?_slot (name := Str.ofString "__next__") hit.typeIs F.slot_str_ascii_iterator_next (wpAny_call_entry F.slot_str_ascii_iterator_next hit.typeIs F.entry_str_ascii_iterator_next ?_ (F.args_str_ascii_iterator_next_1 _))))
  (show wpAny _ _ (field (.ref it) 0 >>= _) _ _ s; refine wpAny_bind (wpAny_field h1 h3 (x := .str x t) rfl ?_))
  (show wpAny _ _ (field (.ref it) 1 >>= _) _ _ s; refine wpAny_bind (wpAny_field h1 h3 (x := .int i 0) rfl ?_))
  (simp only [Int.toNat_natCast, hx]; refine wpAny_bind (wpAny_setField h1 h3 (by simp) (wpAny_bind (wpAny_mkStr (wpAny_pure ⟨_, rfl, wpAny_pure (hQ _ ?_ (Heap.SameBut.update ..))⟩) (by show 1 ≤ sizeLine; decide)))))
  refine ⟨_, Heap.get?_update_self _ h1 (Obj.isFreed_of_fields (Obj.data_mapFields h3 _)), (Obj.cls_mapFields ..).trans h2, ?_⟩
  (rw [Obj.data_mapFields h3]; simp [rawInt])
theorem strIter_stop {it : Addr} {x : Str} {t : Tok} {i : Nat} {Q : Value → Shared → Prop} (hh : A.handled = none) (hit : s.heap.IsStrIter it AI x t i) (hx : x.cps[i]? = none)
    (hE : ∀ h' e, Heap.ExtBut it s.heap h' → (∃ o, h'.get? e = some o ∧ o.cls = .type "StopIteration") → E (.ref e) { s with heap := h' }) :
    wpAny (model prog w) A (Builtin.SmallTypes.nextOf (.ref it)) Q E s := by
  obtain ⟨ob, h1, h2, h3⟩ := id hit
  (unfold Builtin.SmallTypes.nextOf; refine wpAny_bind (wpAny_callSpecial?_slot (name := Str.ofString "__next__") hit.typeIs F.slot_str_ascii_iterator_next (wpAny_call_entry F.slot_str_ascii_iterator_next hit.typeIs F.entry_str_ascii_iterator_next ?_ (F.args_str_ascii_iterator_next_1 _))))
  (show wpAny _ _ (field (.ref it) 0 >>= _) _ _ s; refine wpAny_bind (wpAny_field h1 h3 (x := .str x t) rfl ?_))
  (show wpAny _ _ (field (.ref it) 1 >>= _) _ _ s; refine wpAny_bind (wpAny_field h1 h3 (x := .int i 0) rfl ?_))
  (simp only [Int.toNat_natCast, hx]; refine wpAny_bind (wpAny_rule (wpAny_bind (wpAny_setField h1 h3 (by simp) (wpAny_bind (wpAny_letGo ?_))))))
  (show wpAny _ _ (newExc (.type "StopIteration") [] >>= _) _ _ _; refine wpAny_bind ?_; simp only [newExc, newTuple])
  (refine wpAny_bind (wpAny_newObj_type ?_ (by size_fits)); refine wpAny_bind (m := firstArgMember _ _) (wpAny_of_eq (a := Value.none) (by first | rfl | (simp only [firstArgMember]; rfl)) ?_))
  (refine wpAny_newObj_type ?_ (by size_fits); simp only [raiseNew]; refine wpAny_bind (wpAny_handled ?_))
  (first | rw [show A.in1.handled = none from hh] | rw [hh])
  (refine wpAny_bind (wpAny_pure (wpAny_throw ?_)); exact hE _ _ (((Heap.SameBut.update ..).extBut.push _).push _) ⟨_, Heap.get?_push_size _ rfl, rfl⟩)
/-- one turn of the zip: a new pair -/
theorem zipS_item {z p q i j : Addr} {k m : Nat} {x y : Str} {t u : Tok} {c d : Nat} {a b : Value} {Q : Option Value → Shared → Prop} (D : Ap5 z p q i j) (hz : IsZip s.heap z p q .none) (hp : IsPair s.heap p (.ref i) (.ref j)) (hq : IsPair s.heap q a b)
    (h1 : s.heap.IsStrIter i AI x t k) (h2 : s.heap.IsStrIter j AI y u m) (hx : x.cps[k]? = some c) (hy : y.cps[m]? = some d)
    (hQ : ∀ h' tk t1 t2, IsZip h' z p q (rawInt s.heap.objs.size) → IsPair h' q (.str ⟨#[c]⟩ t1) (.str ⟨#[d]⟩ t2) → h'.IsStrIter i AI x t (k + 1) → h'.IsStrIter j AI y u (m + 1) → IsPair h' s.heap.objs.size (.str ⟨#[c]⟩ t1) (.str ⟨#[d]⟩ t2) → h'.objs.size = s.heap.objs.size + 1 →
      (∀ e o, e ≠ z → e ≠ q → e ≠ i → e ≠ j → s.heap.get? e = some o → h'.get? e = some o) → Q (some (.ref s.heap.objs.size)) { s with heap := h', toks := tk }) : wpAny (model prog w) A (pyNext (.ref z)) Q E s := by
  have hT : s.TypeIs (.ref z) "zip" := ⟨_, hz, rfl⟩
  unfold pyNext
  refine wpAny_bind (wpAny_attempt (wpAny_callSpecial?_slot (name := Str.ofString "__next__") hT F.slot_zip_next (wpAny_call_entry F.slot_zip_next hT F.entry_zip_next ?_ (F.args_zip_next_1 _))))
  (show wpAny _ _ (field (.ref z) 2 >>= _) _ _ _; refine wpAny_bind (wpAny_field hz rfl (x := .bool false) rfl ?_))
  (show wpAny _ _ (field (.ref z) 3 >>= _) _ _ _; refine wpAny_bind (wpAny_field hz rfl (x := .ref p) rfl ?_); refine wpAny_bind (wpAny_seqItems hp rfl ?_))
  (show wpAny _ _ (Builtin.SmallTypes.ownedTupleIsFree (.ref z) >>= _) _ _ _; refine wpAny_bind ?_; unfold Builtin.SmallTypes.ownedTupleIsFree)
  (refine wpAny_bind (wpAny_field hz rfl (x := .none) rfl (wpAny_pure ?_)); simp only [if_true]; refine wpAny_bind (wpAny_rule ?_))
  refine wpAny_bind (wpAny_field hz rfl (x := .ref q) rfl (wpAny_bind (wpAny_setField_rec hz (by simp) fun g1 hz1 hs1 => ?_)))
  replace hz1 : IsZip g1 z p q .ellipsis := hz1
  (refine wpAny_bind ?_; simp only [List.zipIdx_cons, List.zipIdx_nil, List.forIn_cons, List.forIn_nil]; refine wpAny_bind (wpAny_bind (wpAny_onRaise ?_)))
  (show wpAny _ _ (Builtin.SmallTypes.nextOf (.ref i) >>= _) _ _ _; refine wpAny_bind (strIter_next (h1.extBut hs1.extBut D.iz) hx fun g2 h1' hs2 => wpAny_pure ?_))
  have hq2 : IsPair g2 q a b := hs2.extBut _ _ D.qi (hs1.extBut _ _ D.qz hq)
  refine wpAny_bind (wpAny_seqItems hq2 rfl (wpAny_bind (wpAny_updateSeq_pair hq2 fun g3 hq3 hs3 => ?_)))
  replace hq3 : IsPair g3 q (.str ⟨#[c]⟩ s.toks) b := hq3
  refine wpAny_bind (wpAny_letGo (wpAny_pure (wpAny_bind (wpAny_bind (wpAny_onRaise ?_)))))
  (show wpAny _ _ (Builtin.SmallTypes.nextOf (.ref j) >>= _) _ _ _; refine wpAny_bind (strIter_next (((h2.extBut hs1.extBut D.jz).extBut hs2.extBut D.ij.symm).extBut hs3.extBut D.qj.symm) hy fun g4 h2' hs4 => wpAny_pure ?_))
  have hq4 : IsPair g4 q (.str ⟨#[c]⟩ s.toks) b := hs4.extBut _ _ D.qj hq3
  refine wpAny_bind (wpAny_seqItems hq4 rfl (wpAny_bind (wpAny_updateSeq_pair hq4 fun g5 hq5 hs5 => ?_)))
  replace hq5 : IsPair g5 q (.str ⟨#[c]⟩ s.toks) (.str ⟨#[d]⟩ (s.toks + 1)) := hq5
  refine wpAny_bind (wpAny_letGo (wpAny_pure (wpAny_pure (wpAny_bind (wpAny_seqItems hq5 rfl (wpAny_bind (wpAny_newTuple ?_)))))))
  have hsz : g5.objs.size = s.heap.objs.size := by rw [hs5.1, hs4.1, hs3.1, hs2.1, hs1.1]
  have hz5 : IsZip g5 z p q .ellipsis := hs5.extBut _ _ D.qz.symm (hs4.extBut _ _ D.jz.symm (hs3.extBut _ _ D.qz.symm (hs2.extBut _ _ D.iz.symm hz1)))
  have kp : ∀ e o, e ≠ z → e ≠ q → e ≠ i → e ≠ j → s.heap.get? e = some o → g5.get? e = some o := fun e o c1 c2 c3 c4 r => hs5.extBut _ _ c2 (hs4.extBut _ _ c4 (hs3.extBut _ _ c2 (hs2.extBut _ _ c3 (hs1.extBut _ _ c1 r))))
  have i5 : g5.IsStrIter i AI x t (k + 1) := ((h1'.extBut hs3.extBut D.qi.symm).extBut hs4.extBut D.ij).extBut hs5.extBut D.qi.symm
  have j5 : g5.IsStrIter j AI y u (m + 1) := h2'.extBut hs5.extBut D.qj.symm
  have zl : z < g5.objs.size := Heap.lt_size hz5
  (show wpAny _ _ (Builtin.SmallTypes.ownedTupleHandOut (.ref z) (.ref g5.objs.size) >>= _) _ _ _; refine wpAny_bind ?_; unfold Builtin.SmallTypes.ownedTupleHandOut)
  have hz6 : IsZip (g5.push { cls := .type "tuple", data := .seq #[.str ⟨#[c]⟩ s.toks, .str ⟨#[d]⟩ (s.toks + 1)] }) z p q .ellipsis := Heap.get?_push_of_some _ hz5
  refine wpAny_bind (wpAny_setField_rec hz6 (by simp) fun g7 hz7 hs7 => ?_)
  replace hz7 : IsZip g7 z p q (rawInt g5.objs.size) := hz7
  refine wpAny_setField_rec hz7 (by simp) fun g8 hz8 hs8 => ?_
  replace hz8 : IsZip g8 z p q (rawInt g5.objs.size) := hz8
  have up : ∀ e o, e ≠ z → g5.get? e = some o → g8.get? e = some o := fun e o c1 r => hs8.extBut _ _ c1 (hs7.extBut _ _ c1 (Heap.get?_push_of_some _ r))
  have pr : IsPair g8 g5.objs.size (.str ⟨#[c]⟩ s.toks) (.str ⟨#[d]⟩ (s.toks + 1)) := hs8.extBut _ _ (Nat.ne_of_gt zl) (hs7.extBut _ _ (Nat.ne_of_gt zl) (Heap.get?_push_size _ rfl))
  have sz : g8.objs.size = g5.objs.size + 1 := by rw [hs8.1, hs7.1, Heap.size_push]
  rw [hsz] at hz8 pr sz
  refine wpAny_pure ⟨_, rfl, ?_⟩
  refine wpAny_pure ?_
  rw [hsz]
  obtain ⟨oi, ei, ri⟩ := i5
  obtain ⟨oj, ej, rj⟩ := j5
  exact hQ g8 _ _ _ hz8 (up _ _ D.qz hq5) ⟨oi, up _ _ D.iz ei, ri⟩ ⟨oj, up _ _ D.jz ej, rj⟩ pr sz fun e o c1 c2 c3 c4 r => up e o c1 (kp e o c1 c2 c3 c4 r)
/-- the end of the zip -/
theorem zipS_end {z p q i j : Addr} {k m : Nat} {x y : Str} {t u : Tok} {a b : Value} {Q : Option Value → Shared → Prop} (hh : A.handled = none) (D : Ap5 z p q i j) (hz : IsZip s.heap z p q .none) (hp : IsPair s.heap p (.ref i) (.ref j)) (hq : IsPair s.heap q a b)
    (h1 : s.heap.IsStrIter i AI x t k) (h2 : s.heap.IsStrIter j AI y u m) (hend : x.cps[k]? = none ∨ y.cps[m]? = none)
    (hQ : ∀ h' tk, (∀ e o, e ≠ z → e ≠ q → e ≠ i → e ≠ j → s.heap.get? e = some o → h'.get? e = some o) → Q none { s with heap := h', toks := tk }) : wpAny (model prog w) A (pyNext (.ref z)) Q E s := by
  have hT : s.TypeIs (.ref z) "zip" := ⟨_, hz, rfl⟩
  unfold pyNext
  have fin : ∀ h' tk e, (∀ e o, e ≠ z → e ≠ q → e ≠ i → e ≠ j → s.heap.get? e = some o → h'.get? e = some o) → (∃ o, h'.get? e = some o ∧ o.cls = .type "StopIteration") →
      wpAny (model prog w) A (do if (← isInstance (.ref e) (.type "StopIteration")) then pure none else throw (.ref e)) Q E { s with heap := h', toks := tk } := fun h' tk e kp ⟨o, ho, hc⟩ =>
    wpAny_bind (wpAny_isInstance (T := "StopIteration") (b := true) ⟨o, ho, hc⟩ isSubtype_stop (wpAny_pure (hQ _ _ kp)))
  refine wpAny_bind (wpAny_attempt (wpAny_callSpecial?_slot (name := Str.ofString "__next__") hT F.slot_zip_next (wpAny_call_entry F.slot_zip_next hT F.entry_zip_next ?_ (F.args_zip_next_1 _))))
  (show wpAny _ _ (field (.ref z) 2 >>= _) _ _ _; refine wpAny_bind (wpAny_field hz rfl (x := .bool false) rfl ?_))
  (show wpAny _ _ (field (.ref z) 3 >>= _) _ _ _; refine wpAny_bind (wpAny_field hz rfl (x := .ref p) rfl ?_); refine wpAny_bind (wpAny_seqItems hp rfl ?_))
  (show wpAny _ _ (Builtin.SmallTypes.ownedTupleIsFree (.ref z) >>= _) _ _ _; refine wpAny_bind ?_; unfold Builtin.SmallTypes.ownedTupleIsFree)
  (refine wpAny_bind (wpAny_field hz rfl (x := .none) rfl (wpAny_pure ?_)); simp only [if_true]; refine wpAny_bind (wpAny_rule ?_))
  refine wpAny_bind (wpAny_field hz rfl (x := .ref q) rfl (wpAny_bind (wpAny_setField_rec hz (by simp) fun g1 hz1 hs1 => ?_)))
  replace hz1 : IsZip g1 z p q .ellipsis := hz1
  (refine wpAny_bind ?_; simp only [List.zipIdx_cons, List.zipIdx_nil, List.forIn_cons, List.forIn_nil]; refine wpAny_bind (wpAny_bind (wpAny_onRaise ?_)))
  show wpAny _ _ (Builtin.SmallTypes.nextOf (.ref i) >>= _) _ _ _
  cases hx : x.cps[k]? with
  | none =>
    refine wpAny_bind (strIter_stop hh (h1.extBut hs1.extBut D.iz) hx fun g2 e hs2 he => ?_)
    obtain ⟨oe, hoe, hce⟩ := he
    have hz2 : IsZip g2 z p q .ellipsis := hs2 _ _ D.iz.symm hz1
    have hez : e ≠ z := fun r => by subst r; rw [hz2] at hoe; cases hoe; simp at hce
    refine wpAny_setField_rec hz2 (by simp) fun g3 _ hs3 => fin g3 _ e (fun e o c1 _ c3 _ r => hs3.extBut _ _ c1 (hs2 _ _ c3 (hs1.extBut _ _ c1 r))) ⟨oe, hs3.extBut _ _ hez hoe, hce⟩
  | some c =>
    have hy : y.cps[m]? = none := by rcases hend with h | h; rw [hx] at h; cases h; exact h
    refine wpAny_bind (strIter_next (h1.extBut hs1.extBut D.iz) hx fun g2 h1' hs2 => wpAny_pure ?_)
    have hq2 : IsPair g2 q a b := hs2.extBut _ _ D.qi (hs1.extBut _ _ D.qz hq)
    refine wpAny_bind (wpAny_seqItems hq2 rfl (wpAny_bind (wpAny_updateSeq_pair hq2 fun g3 hq3 hs3 => ?_)))
    refine wpAny_bind (wpAny_letGo (wpAny_pure (wpAny_bind (wpAny_bind (wpAny_onRaise ?_)))))
    show wpAny _ _ (Builtin.SmallTypes.nextOf (.ref j) >>= _) _ _ _
    refine wpAny_bind (strIter_stop hh (((h2.extBut hs1.extBut D.jz).extBut hs2.extBut D.ij.symm).extBut hs3.extBut D.qj.symm) hy fun g4 e hs4 he => ?_)
    obtain ⟨oe, hoe, hce⟩ := he
    have hz4 : IsZip g4 z p q .ellipsis := hs4 _ _ D.jz.symm (hs3.extBut _ _ D.qz.symm (hs2.extBut _ _ D.iz.symm hz1))
    have hez : e ≠ z := fun r => by subst r; rw [hz4] at hoe; cases hoe; simp at hce
    refine wpAny_setField_rec hz4 (by simp) fun g5 _ hs5 => fin g5 _ e (fun e o c1 c2 c3 c4 r => hs5.extBut _ _ c1 (hs4 _ _ c4 (hs3.extBut _ _ c2 (hs2.extBut _ _ c3 (hs1.extBut _ _ c1 r))))) ⟨oe, hs5.extBut _ _ hez hoe, hce⟩
end
/-! ### the zip is made -/
abbrev zs1 (h : Heap) (x : Str) (t : Tok) : Heap := h.push { cls := .type "str_ascii_iterator", data := .fields #[.str x t, .int 0 0] }
abbrev zs2 (h : Heap) (x y : Str) (t u : Tok) : Heap := (zs1 h x t).push { cls := .type "str_ascii_iterator", data := .fields #[.str y u, .int 0 0] }
abbrev zs3 (h : Heap) (x y : Str) (t u : Tok) : Heap := (zs2 h x y t u).push { cls := .type "tuple", data := .seq #[.ref h.objs.size, .ref (zs1 h x t).objs.size] }
abbrev zs4 (h : Heap) (x y : Str) (t u : Tok) : Heap := (zs3 h x y t u).push { cls := .type "tuple", data := .seq #[.none, .none] }
abbrev zs5 (h : Heap) (x y : Str) (t u : Tok) : Heap := (zs4 h x y t u).push { cls := .type "zip", data := .fields #[.none, .bool false, .bool false, .ref (zs2 h x y t u).objs.size, .ref (zs3 h x y t u).objs.size] }
theorem meets_zipS (x y : Str) (t u : Tok) (hx : x.cps.all (· < 128) = true) (hy : y.cps.all (· < 128) = true) :
    Meets (Builtin.«zip.__new__» ⟨[.type "zip", .str x t, .str y u], []⟩) (fun _ R s => R (.ok (.ret (.ref (zs4 s.heap x y t u).objs.size))) { s with heap := zs5 s.heap x y t u }) :=
  .of_wp fun prog w A R s h => by
    obtain ⟨hp, gg, dd, tk, os⟩ := s
    have sz := sub_zip
    wp_walk using wpAny_pyIter_ascii hx, wpAny_pyIter_ascii hy
    exact ⟨_, rfl, h⟩
section
variable {prog : Program} {w : World} {A : Around} {E : Value → Shared → Prop} {s : Shared}
theorem call_zipS {x y : Str} {t u : Tok} {Q : Value → Shared → Prop} (hx : x.cps.all (· < 128) = true) (hy : y.cps.all (· < 128) = true)
    (h : ∀ h', IsZip h' (s.heap.objs.size + 4) (s.heap.objs.size + 2) (s.heap.objs.size + 3) .none → IsPair h' (s.heap.objs.size + 2) (.ref s.heap.objs.size) (.ref (s.heap.objs.size + 1)) → IsPair h' (s.heap.objs.size + 3) .none .none →
      h'.IsStrIter s.heap.objs.size AI x t 0 → h'.IsStrIter (s.heap.objs.size + 1) AI y u 0 → (∀ c o, s.heap.get? c = some o → h'.get? c = some o) → Q (.ref (s.heap.objs.size + 4)) { s with heap := h' }) :
    wpAny (model prog w) A (call (.type "zip") [.str x t, .str y u]) Q E s := by
  have m1 : (zs1 s.heap x t).objs.size = s.heap.objs.size + 1 := Heap.size_push ..
  have m2 : (zs2 s.heap x y t u).objs.size = s.heap.objs.size + 2 := by rw [Heap.size_push, m1]
  have m3 : (zs3 s.heap x y t u).objs.size = s.heap.objs.size + 3 := by rw [Heap.size_push, m2]
  have m4 : (zs4 s.heap x y t u).objs.size = s.heap.objs.size + 4 := by rw [Heap.size_push, m3]
  have q5 : (zs5 s.heap x y t u).get? (zs4 s.heap x y t u).objs.size = some _ := Heap.get?_push_size _ rfl
  have q4 : (zs5 s.heap x y t u).get? (zs3 s.heap x y t u).objs.size = some _ := Heap.get?_push_of_some _ (Heap.get?_push_size _ rfl)
  have q3 : (zs5 s.heap x y t u).get? (zs2 s.heap x y t u).objs.size = some _ := Heap.get?_push_of_some _ (Heap.get?_push_of_some _ (Heap.get?_push_size _ rfl))
  have q2 : (zs5 s.heap x y t u).get? (zs1 s.heap x t).objs.size = some _ := Heap.get?_push_of_some _ (Heap.get?_push_of_some _ (Heap.get?_push_of_some _ (Heap.get?_push_size _ rfl)))
  have q1 : (zs5 s.heap x y t u).get? s.heap.objs.size = some _ := Heap.get?_push_of_some _ (Heap.get?_push_of_some _ (Heap.get?_push_of_some _ (Heap.get?_push_of_some _ (Heap.get?_push_size _ rfl))))
  refine callType_new F.called_zip (by decide) (F.typeCall_zip_2 _ _) (F.newCall_zip_2 _ _) (fun obj => F.args_object_init_3 obj _ _) F.entry_zip_new (meets_zipS x y t u hx hy) ?_
  show _ ∧ _
  rw [m2, m3, m4] at q5
  rw [m1, m2] at q3
  rw [m3] at q4
  rw [m1] at q2
  rw [m4]
  exact ⟨⟨_, q5, rfl⟩, h _ q5 q3 q4 ⟨_, q1, rfl, rfl⟩ ⟨_, q2, rfl, rfl⟩ fun c o r => Heap.get?_push_of_some _ (Heap.get?_push_of_some _ (Heap.get?_push_of_some _ (Heap.get?_push_of_some _ (Heap.get?_push_of_some _ r))))⟩
end
/-- the signs of two texts, in new pairs -/
def Izs (x y : Str) : It :=
  ⟨fun k _ => k < x.cps.size ∧ k < y.cps.size, fun k H v H' => ∃ T c d, v = .ref T ∧ H T = none ∧ H' = upd H T (.tup [.str ⟨#[c]⟩, .str ⟨#[d]⟩]) ∧ x.cps[k]? = some c ∧ y.cps[k]? = some d, fun k _ => x.cps.size ≤ k ∨ y.cps.size ≤ k⟩
theorem turn_zipS {P : Program} {w : World} {K : PySem.W.Frag} {elts : List Expr} {kk : Nat} {tpos : Pos} {x y : Str} {t u : Tok} {z p q i j : Addr} (D : Ap5 z p q i j) :
    Turn P w K (.Tuple elts kk tpos) (Izs x y) [z, p, q, i, j] z (fun k h => IsZip h z p q .none ∧ IsPair h p (.ref i) (.ref j) ∧ (∃ a b, IsPair h q a b) ∧ h.IsStrIter i AI x t k ∧ h.IsStrIter j AI y u k) where
  mem := by simp
  obj := fun k h st c hc => by
    obtain ⟨hz, hp, ⟨a, b, hq⟩, ⟨o1, e1, _, d1⟩, ⟨o2, e2, _, d2⟩⟩ := st
    rcases (show c = z ∨ c = p ∨ c = q ∨ c = i ∨ c = j by simpa using hc) with r | r | r | r | r <;> rw [r]
    · exact ⟨_, hz, fun v r => nomatch r⟩
    · exact ⟨_, hp, fun v r => nomatch r⟩
    · exact ⟨_, hq, fun v r => nomatch r⟩
    · exact ⟨o1, e1, fun v r => by rw [d1] at r; cases r⟩
    · exact ⟨o2, e2, fun v r => by rw [d2] at r; cases r⟩
  keep := fun k h h' st kp => by
    obtain ⟨hz, hp, ⟨a, b, hq⟩, ⟨o1, e1, r1⟩, ⟨o2, e2, r2⟩⟩ := st
    exact ⟨kp z (by simp) _ hz, kp p (by simp) _ hp, ⟨a, b, kp q (by simp) _ hq⟩, ⟨o1, kp i (by simp) _ e1, r1⟩, ⟨o2, kp j (by simp) _ e2, r2⟩⟩
  item := by
    intro X hP hw hK hc k pins s σ H E I hf st hg
    subst hP hw hK
    obtain ⟨hz, hp, ⟨a0, b0, hq⟩, h1, h2⟩ := st
    have zl : z < s.heap.objs.size := Heap.lt_size hz
    obtain ⟨cx, gx⟩ : ∃ c, x.cps[k]? = some c := ⟨_, Array.getElem?_eq_getElem hg.1⟩
    obtain ⟨cy, gy⟩ : ∃ c, y.cps[k]? = some c := ⟨_, Array.getElem?_eq_getElem hg.2⟩
    refine zipS_item D hz hp hq h1 h2 gx gy fun h' tk t1 t2 z' q' h1' h2' hT hsz kp => ?_
    refine ⟨_, rfl, wpAny_letOwnedTupleGo_zip (s := { s with heap := h', toks := tk }) z' fun h'' z'' sb => ?_⟩
    have pT : h''.get? s.heap.objs.size = some { cls := .type "tuple", data := .seq #[.str ⟨#[cx]⟩ t1, .str ⟨#[cy]⟩ t2] } := (sb.2 _ (Nat.ne_of_gt zl)).trans hT
    have ok : ObjOk X.prog X.w (upd H s.heap.objs.size (.tup [.str ⟨#[cx]⟩, .str ⟨#[cy]⟩])) h'' s.heap.objs.size (.tup [.str ⟨#[cx]⟩, .str ⟨#[cy]⟩]) :=
      ⟨by show 2 ≤ sizeLine; decide, [.str ⟨#[cx]⟩ t1, .str ⟨#[cy]⟩ t2], .cons ⟨t1, rfl⟩ (.cons ⟨t2, rfl⟩ .nil), ⟨_, pT, rfl, _, rfl⟩⟩
    have ch : ∀ c o, c ∉ [z, p, q, i, j] → s.heap.get? c = some o → h''.get? c = some o := fun c o hb r => by
      simp only [List.mem_cons, List.not_mem_nil, or_false, not_or] at hb
      exact (sb.2 c hb.1).trans (kp c o hb.1 hb.2.2.1 hb.2.2.2.1 hb.2.2.2.2 r)
    have I1 : Inv X pins σ (upd H s.heap.objs.size (.tup [.str ⟨#[cx]⟩, .str ⟨#[cy]⟩])) { s with heap := h'', toks := tk } := I.turnedNew (t' := tk) (ch := [z, p, q, i, j]) ch hf (Nat.le_refl _) ok
    refine ⟨.ref s.heap.objs.size, _, I1, rfl, ⟨_, _, _, rfl, I.hok.fresh (Nat.le_refl _), rfl, gx, gy⟩, ⟨z'', (sb.2 _ D.pz).trans (kp _ _ D.pz D.pq D.pi D.pj hp), ⟨_, _, (sb.2 _ D.qz).trans q'⟩, ?_, ?_⟩, fun c hcm => ?_⟩
    · obtain ⟨o, e, r⟩ := h1'
      exact ⟨o, (sb.2 _ D.iz).trans e, r⟩
    · obtain ⟨o, e, r⟩ := h2'
      exact ⟨o, (sb.2 _ D.jz).trans e, r⟩
    · have hlt : c < s.heap.objs.size := by
        obtain ⟨o1, e1, _⟩ := h1
        obtain ⟨o2, e2, _⟩ := h2
        rcases (show c = z ∨ c = p ∨ c = q ∨ c = i ∨ c = j by simpa using hcm) with r | r | r | r | r <;> rw [r]
        · exact zl
        · exact Heap.lt_size hp
        · exact Heap.lt_size hq
        · exact Heap.lt_size e1
        · exact Heap.lt_size e2
      rw [upd_ne (Nat.ne_of_lt hlt)]
      exact (hf c hcm).1
  done := by
    intro X hP hw hK hc k pins s σ H E I hf st hg
    subst hP hw hK
    obtain ⟨hz, hp, ⟨a0, b0, hq⟩, h1, h2⟩ := st
    have he : x.cps[k]? = none ∨ y.cps[k]? = none := hg.imp (fun r => Array.getElem?_eq_none r) fun r => Array.getElem?_eq_none r
    refine zipS_end (I.ok.hd hc) D hz hp hq h1 h2 he fun h' tk kp => ⟨rfl, I.turnedL (t' := tk) (ch := [z, p, q, i, j]) (fun c o hb r => ?_) hf⟩
    simp only [List.mem_cons, List.not_mem_nil, or_false, not_or] at hb
    exact kp c o hb.1 hb.2.2.1 hb.2.2.2.1 hb.2.2.2.2 r
  self := fun A k s Q E st h => wpAny_pyIter_zip st.1 h
/-- zip of two texts -/
def iZipS (ta : TA) : TI := fun σ H R => ta σ H fun vs H1 => ∃ l m, vs = [.str (ST l), .str (ST m)] ∧ (∀ c ∈ l, c < 128) ∧ (∀ c ∈ m, c < 128) ∧ R (Izs (ST l) (ST m)) H1
theorem ascii_ST {l : List Nat} (h : ∀ c ∈ l, c < 128) : (ST l).cps.all (· < 128) = true := by
  unfold ST
  rw [Array.all_eq_true']
  intro c hc
  exact decide_eq_true (h c (by simpa using hc))
theorem pi_zipS {X : Cx} {e e2 : Expr} {ta : TA} {p pos tpos : Pos} {elts : List Expr} {kk : Nat} (hg : Gl X "zip") (hm : X.mg "zip" = none) (ha : PA X [e, e2] ta)
    (hs : starEach [e, e2] X.env = (false, eval e X.env) :: starEach [e2] X.env := by rfl) (hpl : (backTo pos (starEach [e2] X.env)).any (·.1) = false := by rfl) : PI X (.Tuple elts kk tpos) (.Call (.Name "zip" p) [e, e2] [] pos) (iZipS ta) := by
  refine ⟨fun pins s σ H R I h => Call_ (ld_blt I hg hm PyProof.Rows.boot_zip (PyProof.Rows.callWith_type1 (thn (ha.run pos pins s σ H _ I h) fun us s1 ⟨vs, H1, I1, r1, q1⟩ => ?_) hs hpl))⟩
  obtain ⟨l, m, rfl, hl, hm, q⟩ := q1
  obtain ⟨u1, u2, rfl, ⟨t1, rfl⟩, ⟨t2, rfl⟩⟩ := vals2 r1
  refine call_zipS (ascii_ST hl) (ascii_ST hm) fun h' hz hTI hTO h1 h2 kp => wpAny_pyIter_zip hz ?_
  have I2 : Inv X pins σ H1 { s1 with heap := h' } := I1.kept (t' := s1.toks) kp
  have D : Ap5 (s1.heap.objs.size + 4) (s1.heap.objs.size + 2) (s1.heap.objs.size + 3) s1.heap.objs.size (s1.heap.objs.size + 1) := by constructor <;> simp <;> omega
  refine ⟨s1.heap.objs.size + 4, [s1.heap.objs.size + 4, s1.heap.objs.size + 2, s1.heap.objs.size + 3, s1.heap.objs.size, s1.heap.objs.size + 1], _, _, H1, rfl, I2, turn_zipS D, ⟨hz, hTI, ⟨_, _, hTO⟩, h1, h2⟩, fun c hcm => ?_, q⟩
  have hle : s1.heap.objs.size ≤ c := by
    simp only [List.mem_cons, List.not_mem_nil, or_false] at hcm
    rcases hcm with r | r | r | r | r <;> rw [r] <;> first | exact Nat.le_add_right _ _ | exact Nat.le_refl _
  exact I1.fpOk hle (I1.hok.fresh hle)
end RW

/-! P13: signs, the next early word, all early words. -/
namespace RW
open PySem PySem.Spec PyProof.Rows L2
open Evl (Ex ex_l ex_t ex_rd fresh_back)
local macro_rules | `(tactic| walk_at "x") => `(tactic| first
  | ((with_reducible apply x_var); exact rfl)
  | with_reducible refine x_c ?_
  | with_reducible refine x_op ?_
  | with_reducible refine x_un ?_
  | with_reducible refine x_neg ?_
  | with_reducible refine x_addI ?_
  | with_reducible refine x_subI ?_
  | with_reducible refine x_ltI ?_
  | with_reducible refine x_ltS ?_
  | with_reducible refine x_leI ?_
  | with_reducible refine x_leS ?_
  | with_reducible refine x_gtI ?_
  | with_reducible refine x_gtS ?_
  | with_reducible refine x_geI ?_
  | with_reducible refine x_eqI ?_
  | with_reducible refine x_eqS ?_
  | with_reducible refine x_eqB ?_
  | with_reducible refine x_neI ?_
  | with_reducible refine x_neS ?_
  | with_reducible refine x_isN ?_
  | with_reducible refine x_isB ?_
  | with_reducible refine x_isNotN ?_
  | with_reducible refine x_isNotB ?_
  | with_reducible refine x_inS ?_
  | with_reducible refine x_sl ?_
  | with_reducible refine x_part ?_
  | with_reducible refine x_nopart ?_
  | with_reducible refine x_rev ?_
  | with_reducible refine x_nil ?_
  | with_reducible refine x_cons ?_
  | with_reducible refine x_lst0 ?_
  | with_reducible refine x_tup0 ?_
  | with_reducible refine x_call0 ?_
  | with_reducible refine x_callS ?_
  | with_reducible refine x_cb ?_
  | with_reducible refine x_m1 ?_
  | with_reducible refine x_m1s ?_
  | with_reducible refine x_bm ?_
  | with_reducible refine x_bm0 ?_
  | with_reducible refine x_tyS ?_
  | with_reducible refine x_max2 ?_
  | with_reducible refine x_min2 ?_
  | with_reducible refine x_seq ?_
  | with_reducible refine x_asg ?_
  | with_reducible refine x_asgG ?_
  | with_reducible refine x_ret ?_
  | with_reducible refine x_retN ?_
  | with_reducible refine x_if ?_
  | with_reducible refine x_next ?_
  | with_reducible refine x_drop ?_
  | with_reducible refine x_break ?_
  | with_reducible refine x_cont ?_
  | with_reducible refine x_par ?_
  | with_reducible refine x_par2 ?_
  | ((with_reducible apply x_aug); exact rfl)
  | with_reducible refine x_ip ?_
  | with_reducible refine x_test ?_
  | with_reducible refine x_tB ?_
  | with_reducible refine x_bl ?_
  | with_reducible refine x_and ?_
  | with_reducible refine x_or ?_
  | with_reducible refine x_not ?_
  | with_reducible refine x_andV ?_
  | with_reducible refine x_orV ?_
  | with_reducible refine x_notV ?_
  | with_reducible refine x_ifV ?_
  | with_reducible refine x_chain ?_
  | with_reducible refine x_intA ?_
  | with_reducible refine x_strA ?_
  | with_reducible refine x_yes ?_
  | with_reducible refine iteT ?_
  | with_reducible refine iteF ?_
  | with_reducible refine x_forRng1 ?_
  | with_reducible refine x_forRng2 ?_
  | with_reducible refine x_forLst ?_
  | with_reducible refine x_forU ?_
  | with_reducible refine x_lcRng1 ?_
  | with_reducible refine x_lcRng2 ?_
  | with_reducible refine x_lcLst ?_
  | with_reducible refine x_lcU ?_
  | with_reducible refine x_uS ?_
  | with_reducible refine x_gcons ?_
  | with_reducible refine x_gnil ?_
  -- with side conditions
  | ((with_reducible refine x_addS ?hs ?_); (case hs => walk_at "sz"))
  | ((with_reducible refine x_divI ?hs ?ht ?_); (case hs => walk_at "sz"); (case ht => walk_at "sz"))
  | ((with_reducible refine x_modI ?hs ?_); (case hs => walk_at "sz"))
  | ((with_reducible refine x_mulI ?hs ?_); (case hs => walk_at "sz"))
  | ((with_reducible refine x_lenS ?hs ?_); (case hs => walk_at "sz"))
  | ((with_reducible refine x_slSlo ?hs ?_); (case hs => walk_at "sz"))
  | ((with_reducible refine x_slShi ?hs ?_); (case hs => walk_at "sz"))
  | ((with_reducible refine x_slSlohi ?hs ?_); (case hs => walk_at "sz"))
  | ((with_reducible refine x_slShiNeg ?hs ?_); (case hs => walk_at "sz"))
  | ((with_reducible refine x_slSloI ?ht ?hs ?_); (case ht => walk_at "sz"); (case hs => walk_at "sz"))
  | ((with_reducible refine x_slShiI ?ht ?hs ?_); (case ht => walk_at "sz"); (case hs => walk_at "sz"))
  | ((with_reducible refine x_rng1 ?hs ?ht ?_); (case hs => walk_at "sz"); (case ht => walk_at "sz"))
  | ((with_reducible refine x_rng2 ?hs ?_); (case hs => walk_at "sz"))
  | ((with_reducible refine x_newL ?hs ?_); (case hs => walk_at "sz"); intro px Hx npx ex hpx)
  | ((with_reducible refine x_newT ?hs ?_); (case hs => walk_at "sz"); intro px Hx npx ex hpx)
  | ((with_reducible apply x_lenL); (walk_at "hp"))
  | ((with_reducible apply x_refL); (walk_at "hp"))
  | ((with_reducible apply x_uL); (walk_at "hp"))
  | ((with_reducible apply x_tyL); (walk_at "hp"))
  )
local macro_rules | `(tactic| walk_at "xs") => `(tactic| repeat (walk_at "x"))
/- sizes, bounds -/
local macro_rules | `(tactic| walk_at "sz") => `(tactic| first
  | with_reducible assumption
  | (rw [sizeLine_eq]; first | omega | (simp only [List.length_cons, List.length_nil, List.length_append, List.length_map, List.length_reverse, List.length_range, List.length_drop, List.length_take, List.length_dropLast]; omega))
  | omega
  | (unfold CMul; omega)
  | (simp only [List.length_cons, List.length_nil, List.length_append, List.length_map, List.length_reverse, List.length_range, List.length_drop, List.length_take, List.length_dropLast]; omega))
/- what stands in the heap -/
local macro_rules | `(tactic| walk_at "hp") => `(tactic| first
  | assumption
  | ((with_reducible apply SqL.of); walk_at "hp")
  | ((with_reducible apply SqT.of); walk_at "hp")
  | ((with_reducible apply Ex.at_); assumption; walk_at "hp")
  | ((with_reducible apply ex_l); assumption; walk_at "hp")
  | ((with_reducible apply ex_t); assumption; walk_at "hp"))
local macro_rules | `(tactic| walk_at "ex") => `(tactic| first
  | assumption
  | exact Ex.rfl'
  | (refine Ex.trs ?_ (by assumption); walk_at "ex"))
/- an item at a place within: what is left speaks of the item -/
local macro_rules | `(tactic| walk_at "ix") => `(tactic| ((with_reducible apply x_ixLm); (walk_at "hp"); (walk_at "sz"); (walk_at "sz")))
local macro_rules | `(tactic| walk_at "is") => `(tactic| ((with_reducible apply x_ixSm); (walk_at "sz"); (walk_at "sz"); (walk_at "sz")))

local macro_rules | `(tactic| walk_at "y") => `(tactic| repeat (walk_at "x"))
abbrev rIndexStr : V → List V → Hp → VK → Prop := fun x xs H Q => ∃ a b i rest, x = .str a ∧ xs = [.str b] ∧ Builtin.Str.occurrences a b 0 a.length 1 = i :: rest ∧ Q (.int (i : Nat)) H
section
open PySem.Builtin.Str PySem.StrLaws
theorem idx_occ {S : List Nat} {c : Nat} (h : c ∈ S) : ∃ j, occurrences (ST S) (ST [c]) 0 (ST S).length 1 = [j] ∧ S[j]? = some c := by
  rw [occ_eq, occ_first _ _ _ _ _ (fun _ _ => Nat.zero_le _)]
  cases hf : (List.range' 0 ((ST S).length + 1 - 0)).find? (fun i => decide (i + (ST [c]).length ≤ (ST S).length) && subAt (ST S) (ST [c]) i) with
  | none =>
    exfalso
    rw [List.find?_eq_none] at hf
    obtain ⟨i, hi⟩ := List.getElem?_of_mem h
    have hl := (List.getElem?_eq_some_iff.mp hi).1
    refine hf i (by simp [ST_len]; omega) ?_
    rw [ST_len, ST_len, decide_eq_true (by simp; omega), sub_at.mpr]
    · rfl
    · have e : (S.drop i).take 1 = [c] := by
        rw [List.take_one, List.head?_drop, hi]
        rfl
      exact e
  | some j =>
    obtain ⟨h1, _⟩ := find_range hf
    rw [Bool.and_eq_true, decide_eq_true_eq, sub_at] at h1
    refine ⟨j, rfl, ?_⟩
    have e : (S.drop j).take 1 = [c] := h1.2
    rw [List.take_one, List.head?_drop] at e
    cases hs : S[j]? with
    | none => rw [hs] at e; simp at e
    | some d =>
      rw [hs] at e
      simp at e
      rw [e]
end
/-- the letters z gone from the end -/
structure StripX (x : List Nat) (z m : Nat) : Prop where
  le : m ≤ x.length
  zz : ∀ t, m ≤ t → t < x.length → lt_ x t = z
  ne : m = 0 ∨ lt_ x (m - 1) ≠ z
theorem getD_ST (l : List Nat) (k : Nat) : (ST l).cps.getD k 0 = lt_ l k := by
  rw [← getD_list]
  rfl
theorem rstrip_ST (x : List Nat) (z : Nat) : ∃ m, Txt.rstripChars (ST x) (ST [z]) = ST (x.take m) ∧ StripX x z m := by
  have hc : ∀ c, ((ST [z]).cps.contains c = true ↔ c = z) := fun c => by
    unfold ST
    simp
  obtain ⟨h1, h2, h3, h4⟩ := hi_facts (ST [z]).cps.contains (ST x) 0 (Nat.zero_le _)
  have e0 : Txt.rstripChars (ST x) (ST [z]) = Builtin.Str.strSub (ST x) 0 (stripHi (ST [z]).cps.contains true (ST x) 0) := by
    unfold Txt.rstripChars
    rw [stripBy_eq]
    rfl
  rw [ST_len] at h2
  generalize stripHi (ST [z]).cps.contains true (ST x) 0 = m at *
  refine ⟨m, ?_, h2, fun t ht ht2 => ?_, ?_⟩
  · rw [e0]
    unfold Builtin.Str.strSub ST
    simp
  · have := h3 t ht (by rw [ST_len]; exact ht2)
    rw [getD_ST] at this
    exact (hc _).mp this
  · rcases h4 with h4 | h4
    · exact .inl h4
    · refine .inr fun e => ?_
      rw [getD_ST, e] at h4
      have := (hc z).mpr rfl
      rw [h4] at this
      exact absurd this (by decide)
/-- signs in order -/
structure Sig (S : List Nat) : Prop where
  w : Word S
  le : S.length ≤ 6
  up : S.Pairwise fun a b => a < b
theorem Sig.nd {S : List Nat} (h : Sig S) : S.Pairwise fun a b => a ≠ b := h.up.imp fun h => Nat.ne_of_lt h
theorem Sig.ord {S : List Nat} (h : Sig S) {i j a b : Nat} (hi : S[i]? = some a) (hj : S[j]? = some b) : a < b ↔ i < j := by
  obtain ⟨h1, rfl⟩ := List.getElem?_eq_some_iff.mp hi
  obtain ⟨h2, rfl⟩ := List.getElem?_eq_some_iff.mp hj
  constructor
  · intro k
    rcases Nat.lt_trichotomy i j with c | c | c
    · exact c
    · subst c
      omega
    · have := List.pairwise_iff_getElem.mp h.up j i h2 h1 c
      omega
  · exact List.pairwise_iff_getElem.mp h.up i j h1 h2
theorem Sig.last {S : List Nat} (h : Sig S) {z : Nat} (hz : S.getLast? = some z) : ∀ c ∈ S, c ≤ z := fun c hc => by
  rw [List.getLast?_eq_getElem?] at hz
  obtain ⟨i, hi⟩ := List.getElem?_of_mem hc
  have hil := (List.getElem?_eq_some_iff.mp hi).1
  refine Nat.le_of_not_lt fun k => ?_
  have := (h.ord hz hi).mp k
  omega
theorem Sig.first {S : List Nat} (h : Sig S) {a : Nat} (ha : S[0]? = some a) : ∀ c ∈ S, a ≤ c := fun c hc => by
  obtain ⟨i, hi⟩ := List.getElem?_of_mem hc
  refine Nat.le_of_not_lt fun k => ?_
  have := (h.ord hi ha).mp k
  omega
section
variable {g : G} {vs : List V} {H : Hp} {Q : VK} {E : XK} {K : Frag}
/-! ### power -/
def sp_power (g : G) : Sp := fun vs H Q _ => ∃ a b : Nat, vs = [.int (a : Int), .int (b : Int)] ∧ a ≤ 1000 ∧ b ≤ 1000 ∧ Q (.int ((a ^ b : Nat) : Int)) H
theorem c_power {a b : Nat} (h : a ≤ 1000) (h2 : b ≤ 1000) (q : Q (.int ((a ^ b : Nat) : Int)) H) : sp_power g [.int (a : Int), .int (b : Int)] H Q E := ⟨a, b, rfl, h, h2, q⟩
/-- power: slots many, times, found, turn -/
def t_power (g : G) : TS :=
  tSeq (tAsg (tC (.int 1)) (gName 2))
    (tSeq (tFor (iRng1 (tCons (tVar 1) tNil)) (gName 3) (tAug 2 (tVar 0) tIpMul))
    (tRet (tVar 2)))
theorem p_power (h : sp_power g vs H Q E) : t_power g (D0 Q) (st0 4 vs) H := by
  obtain ⟨a, b, rfl, h1, h2, q⟩ := h
  show t_power g (D0 Q) [some (.int (a : Int)), some (.int (b : Int)), none, none] H
  unfold t_power
  walk_at "y"
  refine x_forR (fun i (w : Option V) => [some (.int (a : Int)), some (.int (b : Int)), some (.int ((a ^ i : Nat) : Int)), w]) (fun _ _ H' => H' = H) none rfl rfl (fun i w H1 hi e => ?_) fun w H1 e => ?_
  · subst e
    show tAug _ _ _ _ [some (.int (a : Int)), some (.int (b : Int)), some (.int ((a ^ i : Nat) : Int)), some (.int (0 + (i : Int)))] _
    walk_at "y"
    refine ⟨_, _, rfl, rfl, .inr ⟨by omega, by omega⟩, ?_⟩
    refine ⟨some (.int (0 + (i : Int))), ?_, rfl⟩
    have e : ((a ^ i : Nat) : Int) * (a : Int) = ((a ^ (i + 1) : Nat) : Int) := by
      rw [Nat.pow_succ]
      exact (Int.natCast_mul _ _).symm
    rw [e]
    rfl
  · subst e
    walk_at "y"
    rw [show ((b : Int)).toNat = b by omega]
    exact q
/-! ### need_signs -/
/-- what is handed in as signs -/
def SigB (K : Frag) (H : Hp) (v : V) (b : Bool) : Prop := (IsW K H v false ∧ b = false) ∨ (∃ S, v = .str (ST S) ∧ Word S ∧ (b = true ↔ Sig S))
/-- what is handed in as a number from 1 to the most -/
def NumB (K : Frag) (H : Hp) (v : V) (most : Int) (b : Bool) : Prop := (∃ i, v = .int i ∧ (b = true ↔ 1 ≤ i ∧ i ≤ most)) ∨ (∃ T, TyX K H v (.type T) ∧ b = false ∧ (kitB T "int" = some false ∨ (kitB T "int" = some true ∧ kitB T "bool" = some true)))
theorem SigB.ex {H' : Hp} (e : Ex H H') {v : V} {b : Bool} (h : SigB K H v b) : SigB K H' v b := by
  rcases h with ⟨h, r⟩ | h
  · exact .inl ⟨h.ex e, r⟩
  · exact .inr h
theorem NumB.ex {H' : Hp} (e : Ex H H') {v : V} {m : Int} {b : Bool} (h : NumB K H v m b) : NumB K H' v m b := by
  rcases h with h | ⟨T, h1, h2⟩
  · exact .inl h
  · exact .inr ⟨T, tyX_ex e h1, h2⟩
theorem SigB.ok {S : List Nat} (h : Sig S) : SigB K H (.str (ST S)) true := .inr ⟨S, rfl, h.w, by simp [h]⟩
theorem NumB.ok {i m : Int} (h : 1 ≤ i) (h2 : i ≤ m) : NumB K H (.int i) m true := .inl ⟨i, rfl, by simp [h, h2]⟩
def sp_need_signs (g : G) : Sp := fun vs H Q E => ∃ v w sb nb, vs = [v, w] ∧ SigB g.K H v sb ∧ NumB g.K H w 12 nb ∧ (sb = false → ∀ H', Ex H H' → E (.ref g.cNoSigns) none H') ∧ (sb = true → nb = false → ∀ H', Ex H H' → E (.ref g.cNoCount) none H') ∧ (sb = true → nb = true → ∀ H', Ex H H' → Q .non H')
theorem c_need_signs {S : List Nat} {N : Int} (h : Sig S) (h1 : 1 ≤ N) (h2 : N ≤ 12) (q : ∀ H', Ex H H' → Q .non H') : sp_need_signs g [.str (ST S), .int N] H Q E :=
  ⟨_, _, true, true, rfl, SigB.ok h, NumB.ok h1 h2, fun h => absurd h (by decide), fun _ h => absurd h (by decide), fun _ _ => q⟩
/-- need_signs: slots signs, longest, one, other -/
def t_need_signs (g : G) (E : XK) : TS :=
  tSeq (tIfS (tOr (tNot (tB (tCall (sp_is_word g) [] E0 (tCons (tVar 0) tNil)))) (tTest (tOp uGt (tCB (rLen g.K) (tCons (tVar 0) tNil)) (tC (.int 6))))) (tRaise g.cNoSigns E) tNext)
    (tSeq (tIfS (tNot (tB (tCB (rAll g.K) (tCons (tLc (iZipS (tCons (tVar 0) (tCons (tSl (rSlU g.K) (tVar 0) (tPart (tC (.int 1))) tNoPart) tNil))) (gTup g.K 2 (gCons (gName 2) (gCons (gName 3) gNil))) tYes (tOp uLt (tVar 2) (tVar 3)) [2, 3]) tNil)))) (tRaise g.cNoSigns E) tNext)
    (tIfS (tOr (tNot (tB (tCB (rIsU g.K) (tCons (tVar 1) (tCons (tC (.ty "int")) tNil))))) (tOr (tB (tCB (rIsU g.K) (tCons (tVar 1) (tCons (tC (.ty "bool")) tNil)))) (tNot (tTest (tChain uLe uLe (tC (.int 1)) (tVar 1) (tC (.int 12))))))) (tRaise g.cNoCount E) tNext))
theorem x_lcZipS {σ : L2.St} {tt : TT} {te : TE} {tg : TG} {ws : List Nat} {tA : TA} (q : tA σ H fun ws' H1 => ∃ l m, ws' = [.str (ST l), .str (ST m)] ∧ (∀ c ∈ l, c < 128) ∧ (∀ c ∈ m, c < 128) ∧ lcGo (Izs (ST l) (ST m)) tg tt te ws σ H1 Q) : tLc (iZipS tA) tg tt te ws σ H Q := q
theorem x_lcZs {σ : L2.St} {te : TE} {ws : List Nat} {i j n : Nat} {l m : List Nat} (hl : min l.length m.length = n) (F : Nat → V) (hn : n ≤ 16000000) (hw : ∀ x y, wipe (((wipe σ ws).set i (some x)).set j (some y)) ws = wipe σ ws)
    (hb : ∀ (k c d : Nat) (H' : Hp), l[k]? = some c → m[k]? = some d → Ex H H' → ∀ P : VK, (∀ H4, Ex H' H4 → P (F k) H4) → te (((wipe σ ws).set i (some (.str (ST [c])))).set j (some (.str (ST [d])))) H' P)
    (q : ∀ (p : Addr) (H' : Hp), H p = none → Ex H H' → H' p = some (.lst ((List.range n).map F)) → Q (.ref p) H') :
    lcGo (Izs (ST l) (ST m)) (gTup K 2 (gCons (gName i) (gCons (gName j) gNil))) tYes te ws σ H Q := by
  intro Dl hD
  refine ⟨fun k r H' => r = n - k ∧ k ≤ n ∧ Cg H Dl ((List.range k).map F) H', ⟨n, by omega, Nat.zero_le _, hD, Evl.Ex.new hD, upd_same⟩, ?_⟩
  rintro k r H' ⟨rfl, hk, c1, c2, c3⟩
  by_cases hlt : k < n
  · refine .inr ⟨⟨by show k < l.length; omega, by show k < m.length; omega⟩, fun H'' => Cg H Dl ((List.range (k + 1)).map F) H'', fun H'' c => ⟨n - (k + 1), by omega, rfl, hlt, c⟩, fun v H'' hy => ?_⟩
    obtain ⟨T, c, d, rfl, hT, rfl, g1, g2⟩ := hy
    have e1 : l[k]? = some c := by
      unfold ST at g1
      simpa using g1
    have e2 : m[k]? = some d := by
      unfold ST at g2
      simpa using g2
    have eT : Ex H' (upd H' T (.tup [.str ⟨#[c]⟩, .str ⟨#[d]⟩])) := Evl.Ex.new hT
    refine x_gtup (xs := [.str (ST [c]), .str (ST [d])]) upd_same rfl (x_gcons (x_gcons (x_gnil ⟨hw _ _, x_yes (x_it rfl (hb k c d _ e1 e2 (Ex.trs c2 eT) _ fun H4 e4 => ⟨_, e4 _ _ (eT _ _ c3), ?_, c1, Evl.Ex.mut (Ex.trs (Ex.trs c2 eT) e4) c1, ?_⟩))⟩)))
    · rw [sizeLine_eq, List.length_map, List.length_range]
      omega
    · rw [upd_same, List.range_succ, List.map_append, List.map_singleton]
  · obtain rfl : k = n := by omega
    refine .inl ⟨?_, q Dl H' c1 c2 c3⟩
    show l.length ≤ k ∨ m.length ≤ k
    omega
theorem Letters.ascii {l : List Nat} (h : Letters l) : ∀ c ∈ l, c < 128 := fun c hc => by have := (h c hc).2; omega
theorem p_need_signs (h : sp_need_signs g vs H Q E) : t_need_signs g E (D0 Q) (st0 4 vs) H := by
  obtain ⟨v, w, sb, nb, rfl, hs, hn, q1, q2, q3⟩ := h
  show t_need_signs g E (D0 Q) [some v, some w, none, none] H
  unfold t_need_signs
  walk_at "y"
  rcases hs with ⟨hv, rfl⟩ | ⟨S, rfl, hw, hsb⟩
  · refine c_is_word hv fun H1 e1 => ?_
    walk_at "y"
    refine x_it rfl ?_
    walk_at "y"
    exact x_raise (q1 rfl _ e1)
  · have hw2 := hw.2
    refine c_is_word (IsW.word hw) fun H1 e1 => ?_
    walk_at "y"
    refine x_if0 rfl ?_
    walk_at "y"
    refine x_ifd (fun h6 => ?_) fun h6 => ?_
    · have : sb = false := by
        rw [Bool.eq_false_iff]
        intro r
        have := (hsb.mp r).le
        omega
      subst this
      exact x_raise (q1 rfl _ e1)
    · walk_at "y"
      refine x_lcZipS (x_cons (x_var rfl (x_cons (x_sl (x_var rfl (x_part (x_c (x_intA (x_nopart (x_slSlo (k := 1) (by walk_at "sz") (x_nil ⟨S, S.drop 1, rfl, hw.1.ascii, (hw.1.drop 1).ascii, ?_⟩)))))))))))
      refine x_lcZs (n := S.length - 1) (by rw [List.length_drop]; omega) (fun k => .bl (decide (lt_ S k < lt_ S (k + 1)))) (by omega) (fun _ _ => rfl) (fun k c d H' hc hd e R hR => ?_) fun p H2 np e2 hp => ?_
      · walk_at "y"
        have h1 : lt_ S k = c := lt_get hc
        have h2 : lt_ S (k + 1) = d := by
          rw [List.getElem?_drop, Nat.add_comm] at hd
          exact lt_get hd
        have := hR _ Ex.rfl'
        rw [h1, h2] at this
        rw [show decide ([c] < [d]) = decide (c < d) from decide_eq_decide.mpr one_lt2]
        exact this
      · walk_at "y"
        refine x_all (bs := (List.range (S.length - 1)).map fun k => decide (lt_ S k < lt_ S (k + 1))) (SqL.of (by rw [hp, List.map_map]; rfl)) ?_
        have hup : ((List.range (S.length - 1)).map fun k => decide (lt_ S k < lt_ S (k + 1))).all id = sb := by
          rw [Bool.eq_iff_iff, hsb, List.all_eq_true]
          constructor
          · intro h
            have step : ∀ k, k + 1 < S.length → lt_ S k < lt_ S (k + 1) := fun k hk => of_decide_eq_true (h _ (List.mem_map.mpr ⟨k, List.mem_range.mpr (by omega), rfl⟩))
            have far : ∀ d k, k + d + 1 < S.length → lt_ S k < lt_ S (k + d + 1) := by
              intro d
              induction d with
              | zero => intro k hk; exact step k hk
              | succ d ih => intro k hk; exact Nat.lt_trans (ih k (by omega)) (step (k + d + 1) (by omega))
            refine ⟨hw, by omega, List.pairwise_iff_getElem.mpr fun i j hi hj hij => ?_⟩
            have gi : lt_ S i = S[i] := lt_get (List.getElem?_eq_getElem hi)
            have gj : lt_ S j = S[j] := lt_get (List.getElem?_eq_getElem hj)
            rw [← gi, ← gj]
            have := far (j - i - 1) i (by omega)
            rwa [show i + (j - i - 1) + 1 = j by omega] at this
          · rintro h x hx
            obtain ⟨k, hk, rfl⟩ := List.mem_map.mp hx
            have hk := List.mem_range.mp hk
            exact decide_eq_true ((h.ord (lt_some (by omega)) (lt_some (by omega))).mpr (Nat.lt_succ_self k))
        rw [hup]
        walk_at "y"
        have e12 := Ex.trs e1 e2
        cases sb with
        | false =>
          refine x_it rfl ?_
          exact x_raise (q1 rfl _ e12)
        | true =>
          refine x_if0 rfl ?_
          walk_at "y"
          rcases hn.ex e12 with ⟨i, rfl, hnb⟩ | ⟨T, hT, rfl, hk | ⟨hk, hk2⟩⟩
          · refine x_isT (.base (.int _)) (by decide +kernel : kitB "int" "int" = some true) ?_
            walk_at "y"
            refine x_if0 rfl ?_
            walk_at "y"
            refine x_isT (.base (.int _)) (by decide +kernel : kitB "int" "bool" = some false) ?_
            walk_at "y"
            have fin : ∀ b : Bool, b = nb → if (!b) = true then tRaise g.cNoCount E { nx := fun _ H' => Q .non H', rt := Q } [some (.str (ST S)), some (.int i), none, none] H2 else tNext { nx := fun _ H' => Q .non H', rt := Q } [some (.str (ST S)), some (.int i), none, none] H2 := by
              rintro b rfl
              cases b with
              | true => exact x_if0 rfl (x_next (q3 rfl rfl _ e12))
              | false => exact x_it rfl (x_raise (q2 rfl rfl _ e12))
            refine x_ifd (fun h1 => ?_) fun h1 => ?_
            · walk_at "y"
              refine fin _ ?_
              rw [Bool.eq_iff_iff, hnb, decide_eq_true_eq]
              exact ⟨fun h => ⟨h1, h⟩, fun h => h.2⟩
            · refine ⟨_, rfl, ?_⟩
              refine fin false ?_
              have : nb = false := by
                rw [Bool.eq_false_iff]
                intro r
                exact h1 (hnb.mp r).1
              exact this.symm
          · refine x_isT hT hk ?_
            walk_at "y"
            refine x_it rfl ?_
            walk_at "y"
            exact x_raise (q2 rfl rfl _ e12)
          · refine x_isT hT hk ?_
            walk_at "y"
            refine x_if0 rfl ?_
            walk_at "y"
            refine x_isT hT hk2 ?_
            walk_at "y"
            exact x_raise (q2 rfl rfl _ e12)
/-! ### filled -/
/-- w again and again, up to N -/
def ext (w : List Nat) (N : Nat) : List Nat := (rep (N / w.length + 1) w).take N
theorem ext_len {w : List Nat} {N : Nat} (h : 0 < w.length) : (ext w N).length = N := by
  unfold ext
  rw [List.length_take, rep_len, Nat.succ_mul]
  have := Nat.lt_div_mul_add (a := N) (b := w.length) h
  omega
theorem ext_lt {w : List Nat} {N t : Nat} (h : 0 < w.length) (ht : t < N) : lt_ (ext w N) t = lt_ w (t % w.length) := by
  unfold ext
  rw [lt_take ht, lt_rep]
  have := Nat.lt_div_mul_add (a := N) (b := w.length) h
  rw [Nat.succ_mul]
  omega
def sp_filled (g : G) : Sp := fun vs H Q _ => ∃ (w : List Nat) (N : Nat), vs = [.str (ST w), .int (N : Int)] ∧ 0 < w.length ∧ w.length ≤ 1000 ∧ N ≤ 1000 ∧ Q (.str (ST (ext w N))) H
theorem c_filled {w : List Nat} {N : Nat} (h : 0 < w.length) (h1 : w.length ≤ 1000) (h2 : N ≤ 1000) (q : Q (.str (ST (ext w N))) H) : sp_filled g [.str (ST w), .int (N : Int)] H Q E := ⟨w, N, rfl, h, h1, h2, q⟩
/-- filled: slots word, longest, times -/
def t_filled (g : G) : TS :=
  tSeq (tAsg (tOp (uAdd g.K) (tOp uDiv (tVar 1) (tCB (rLen g.K) (tCons (tVar 0) tNil))) (tC (.int 1))) (gName 2))
    (tRet (tSl (rSlU g.K) (tOp uMul (tVar 0) (tVar 2)) tNoPart (tPart (tVar 1))))
theorem p_filled (h : sp_filled g vs H Q E) : t_filled g (D0 Q) (st0 3 vs) H := by
  obtain ⟨w, N, rfl, h0, h1, h2, q⟩ := h
  show t_filled g (D0 Q) [some (.str (ST w)), some (.int (N : Int)), none] H
  unfold t_filled
  walk_at "y"
  rw [show (N : Int) / (w.length : Int) + 1 = ((N / w.length + 1 : Nat) : Int) by rw [← Int.natCast_ediv]; rfl]
  have hd := Nat.div_le_self N w.length
  have hsz : w.length * (N / w.length + 1) ≤ 1000 * 1001 := Nat.mul_le_mul h1 (by omega)
  refine x_mulS (Int.natCast_nonneg _) (by generalize N / w.length = dd at *; omega) (by rw [sizeLine_eq]; exact Nat.le_trans hsz (by decide)) ?_
  walk_at "y"
  refine x_slShi (k := N) ?_ q
  rw [rep_len, sizeLine_eq, Nat.mul_comm]
  exact Nat.le_trans hsz (by decide)
/-! ### raised, behind -/
/-- what raised gives of x: None where nothing is left; else the next sign behind what is left but its last letter -/
def RaisedOk (S x : List Nat) (z : Nat) (Q : VK) (H : Hp) : Prop := ∀ m, StripX x z m → (m = 0 → Q .non H) ∧ (1 ≤ m → ∀ c', c' ∈ S → lt_ x (m - 1) < c' → (∀ e ∈ S, lt_ x (m - 1) < e → c' ≤ e) → Q (.str (ST (x.take (m - 1) ++ [c']))) H)
def sp_raised (g : G) : Sp := fun vs H Q _ => ∃ x S z, vs = [.str (ST x), .str (ST S)] ∧ Sig S ∧ S.getLast? = some z ∧ x.length ≤ 1000 ∧ (∀ c ∈ x, c ∈ S) ∧ RaisedOk S x z Q H
/-- raised: slots word, signs, left -/
def t_raised (g : G) : TS :=
  tSeq (tAsg (tBM g.K "str" rRstrip (tVar 0) (tCons (tOp (rIx g.K) (tVar 1) (tUn (rU fun i => .int (-i)) (tC (.int 1)))) tNil)) (gName 2))
    (tSeq (tIfS (tTest (tOp (uEq g.K) (tVar 2) (tC (.str (ST []))))) (tRet (tC .non)) tNext)
    (tRet (tOp (uAdd g.K) (tSl (rSlU g.K) (tVar 2) tNoPart (tPart (tUn (rU fun i => .int (-i)) (tC (.int 1))))) (tOp (rIx g.K) (tVar 1) (tOp (uAdd g.K) (tBM g.K "str" rIndexStr (tVar 1) (tCons (tOp (rIx g.K) (tVar 2) (tUn (rU fun i => .int (-i)) (tC (.int 1)))) tNil)) (tC (.int 1)))))))
theorem take_dropLast {x : List Nat} {m : Nat} (h : m ≤ x.length) (h1 : 1 ≤ m) : (x.take m).dropLast = x.take (m - 1) := by
  rw [List.dropLast_eq_take, List.length_take, List.take_take]
  congr 1
  omega
theorem p_raised (h : sp_raised g vs H Q E) : t_raised g (D0 Q) (st0 3 vs) H := by
  obtain ⟨x, S, z, rfl, hS, hz, hx, hxs, q⟩ := h
  show t_raised g (D0 Q) [some (.str (ST x)), some (.str (ST S)), none] H
  unfold t_raised
  have hSl := hS.le
  have hS1 := hS.w.2.1
  walk_at "y"
  refine x_ixSlast (by walk_at "sz") (fun r => by rw [r] at hS1; simp at hS1) fun c hc hcl => ?_
  obtain rfl : c = z := by
    rw [hz] at hcl
    exact (Option.some.inj hcl).symm
  walk_at "y"
  obtain ⟨m, e, st⟩ := rstrip_ST x c
  obtain ⟨q1, q2⟩ := q m st
  refine ⟨_, _, rfl, rfl, by rw [ST_len, sizeLine_eq]; omega, ?_⟩
  rw [e]
  have hml := st.le
  have htl : (x.take m).length = m := by rw [List.length_take]; omega
  walk_at "y"
  refine x_ifd (fun h0 => ?_) fun h0 => ?_
  · have : m = 0 := by rw [h0] at htl; simpa using htl.symm
    walk_at "y"
    exact q1 this
  · have hm1 : 1 ≤ m := by
      rcases m with _ | m
      · exact absurd (by simp) h0
      · omega
    have hlast : (x.take m).getLast? = some (lt_ x (m - 1)) := by
      rw [List.getLast?_eq_getElem?, htl, List.getElem?_take, if_pos (by omega), lt_some (by omega)]
    walk_at "y"
    refine x_ixSlast (by rw [htl, sizeLine_eq]; omega) h0 fun d hd hdl => ?_
    obtain rfl : d = lt_ x (m - 1) := by
      rw [hlast] at hdl
      exact (Option.some.inj hdl).symm
    have hdS : lt_ x (m - 1) ∈ S := hxs _ (lt_mem (by omega))
    obtain ⟨j, ho, hj⟩ := idx_occ hdS
    walk_at "y"
    refine ⟨_, _, j, [], rfl, rfl, ho, ?_⟩
    have hdz : lt_ x (m - 1) ≠ c := by
      rcases st.ne with r | r
      · omega
      · exact r
    have hdlt : lt_ x (m - 1) < c := by
      have := hS.last hz _ hdS
      omega
    have hjl : j + 1 < S.length := by
      have hz' : S[S.length - 1]? = some c := by rw [← List.getLast?_eq_getElem?]; exact hz
      have := (hS.ord hj hz').mp hdlt
      omega
    walk_at "y"
    show rIx g.K (.str (ST S)) (.int ((j + 1 : Nat) : Int)) H _
    refine x_ixSn (by walk_at "sz") (lt_some hjl) ?_
    rw [take_dropLast hml hm1]
    refine x_addS (by rw [List.length_take, sizeLine_eq]; simp; omega) ?_
    refine q2 hm1 _ (lt_mem hjl) ((hS.ord hj (lt_some hjl)).mpr (Nat.lt_succ_self j)) fun e he hlt => ?_
    obtain ⟨i, hi⟩ := List.getElem?_of_mem he
    have hij := (hS.ord hj hi).mp hlt
    refine Nat.le_of_not_lt fun r => ?_
    have := (hS.ord hi (lt_some hjl)).mp r
    omega
def sp_behind (g : G) : Sp := fun vs H Q _ => ∃ (w S : List Nat) (N z : Nat), vs = [.str (ST w), .str (ST S), .int (N : Int)] ∧ Sig S ∧ S.getLast? = some z ∧ N ≤ 12 ∧ LW S N w ∧ (Strip w N z 0 → Q .non H) ∧ (∀ m c' y, Nxt S w N z m c' y → Q (.str (ST y)) H)
theorem c_behind {w S : List Nat} {N z : Nat} (h : Sig S) (hz : S.getLast? = some z) (hN : N ≤ 12) (hw : LW S N w) (q1 : Strip w N z 0 → Q .non H) (q2 : ∀ m c' y, Nxt S w N z m c' y → Q (.str (ST y)) H) : sp_behind g [.str (ST w), .str (ST S), .int (N : Int)] H Q E :=
  ⟨w, S, N, z, rfl, h, hz, hN, hw, q1, q2⟩
/-- behind: slots word, signs, longest -/
def t_behind (g : G) : TS :=
  tRet (tCall (sp_raised g) [] E0 (tCons (tCall (sp_filled g) [] E0 (tCons (tVar 0) (tCons (tVar 2) tNil))) (tCons (tVar 1) tNil)))
theorem p_behind (h : sp_behind g vs H Q E) : t_behind g (D0 Q) (st0 3 vs) H := by
  obtain ⟨w, S, N, z, rfl, hS, hz, hN, hw, q1, q2⟩ := h
  show t_behind g (D0 Q) [some (.str (ST w)), some (.str (ST S)), some (.int (N : Int))] H
  unfold t_behind
  have hp := hw.ly.pos
  have hle := hw.le
  walk_at "y"
  refine c_filled hp (by omega) (by omega) ?_
  walk_at "y"
  have hel := ext_len (N := N) hp
  refine ⟨ext w N, S, z, rfl, hS, hz, by omega, fun c hc => ?_, fun m st => ?_⟩
  · obtain ⟨t, ht⟩ := List.getElem?_of_mem hc
    have htl := (List.getElem?_eq_some_iff.mp ht).1
    rw [← lt_get ht, ext_lt hp (by omega)]
    exact hw.si _ (lt_mem (Nat.mod_lt _ hp))
  · have st' : Strip w N z m := ⟨by have := st.le; omega, fun t h1 h2 => by rw [← ext_lt hp h2]; exact st.zz t h1 (by omega), by
      rcases st.ne with r | r
      · exact .inl r
      · by_cases c : m = 0
        · exact .inl c
        · rw [ext_lt hp (by have := st.le; omega)] at r
          exact .inr r⟩
    refine ⟨fun h0 => q1 (h0 ▸ st'), fun h1 c' hc' hlt hnx => ?_⟩
    have hml := st'.le
    rw [ext_lt hp (by omega)] at hlt hnx
    have htl : ((ext w N).take (m - 1)).length = m - 1 := by rw [List.length_take]; omega
    refine q2 m c' _ ⟨st', h1, hc', hlt, hnx, by rw [List.length_append, htl, List.length_singleton]; omega, fun t ht => ?_, ?_⟩
    · rw [lt_app, if_pos (by omega), lt_take ht, ext_lt hp (by omega)]
    · rw [lt_app, if_neg (by omega), htl, Nat.sub_self]
      rfl
end
end RW

/-! P14: early_words, next_early. -/
namespace RW
open PySem PySem.Spec PyProof.Rows L2
open Evl (Ex ex_l ex_t ex_rd fresh_back)
local macro_rules | `(tactic| walk_at "x") => `(tactic| first
  | ((with_reducible apply x_var); exact rfl)
  | with_reducible refine x_c ?_
  | with_reducible refine x_op ?_
  | with_reducible refine x_un ?_
  | with_reducible refine x_neg ?_
  | with_reducible refine x_addI ?_
  | with_reducible refine x_subI ?_
  | with_reducible refine x_ltI ?_
  | with_reducible refine x_ltS ?_
  | with_reducible refine x_leI ?_
  | with_reducible refine x_leS ?_
  | with_reducible refine x_gtI ?_
  | with_reducible refine x_gtS ?_
  | with_reducible refine x_geI ?_
  | with_reducible refine x_eqI ?_
  | with_reducible refine x_eqS ?_
  | with_reducible refine x_eqB ?_
  | with_reducible refine x_neI ?_
  | with_reducible refine x_neS ?_
  | with_reducible refine x_isN ?_
  | with_reducible refine x_isB ?_
  | with_reducible refine x_isNotN ?_
  | with_reducible refine x_isNotB ?_
  | with_reducible refine x_inS ?_
  | with_reducible refine x_sl ?_
  | with_reducible refine x_part ?_
  | with_reducible refine x_nopart ?_
  | with_reducible refine x_rev ?_
  | with_reducible refine x_nil ?_
  | with_reducible refine x_cons ?_
  | with_reducible refine x_lst0 ?_
  | with_reducible refine x_tup0 ?_
  | with_reducible refine x_call0 ?_
  | with_reducible refine x_callS ?_
  | with_reducible refine x_cb ?_
  | with_reducible refine x_m1 ?_
  | with_reducible refine x_m1s ?_
  | with_reducible refine x_bm ?_
  | with_reducible refine x_bm0 ?_
  | with_reducible refine x_tyS ?_
  | with_reducible refine x_max2 ?_
  | with_reducible refine x_min2 ?_
  | with_reducible refine x_seq ?_
  | with_reducible refine x_asg ?_
  | with_reducible refine x_asgG ?_
  | with_reducible refine x_ret ?_
  | with_reducible refine x_retN ?_
  | with_reducible refine x_if ?_
  | with_reducible refine x_next ?_
  | with_reducible refine x_drop ?_
  | with_reducible refine x_break ?_
  | with_reducible refine x_cont ?_
  | with_reducible refine x_par ?_
  | with_reducible refine x_par2 ?_
  | ((with_reducible apply x_aug); exact rfl)
  | with_reducible refine x_ip ?_
  | with_reducible refine x_test ?_
  | with_reducible refine x_tB ?_
  | with_reducible refine x_bl ?_
  | with_reducible refine x_and ?_
  | with_reducible refine x_or ?_
  | with_reducible refine x_not ?_
  | with_reducible refine x_andV ?_
  | with_reducible refine x_orV ?_
  | with_reducible refine x_notV ?_
  | with_reducible refine x_ifV ?_
  | with_reducible refine x_chain ?_
  | with_reducible refine x_intA ?_
  | with_reducible refine x_strA ?_
  | with_reducible refine x_yes ?_
  | with_reducible refine iteT ?_
  | with_reducible refine iteF ?_
  | with_reducible refine x_forRng1 ?_
  | with_reducible refine x_forRng2 ?_
  | with_reducible refine x_forLst ?_
  | with_reducible refine x_forU ?_
  | with_reducible refine x_lcRng1 ?_
  | with_reducible refine x_lcRng2 ?_
  | with_reducible refine x_lcLst ?_
  | with_reducible refine x_lcU ?_
  | with_reducible refine x_uS ?_
  | with_reducible refine x_gcons ?_
  | with_reducible refine x_gnil ?_
  -- with side conditions
  | ((with_reducible refine x_addS ?hs ?_); (case hs => walk_at "sz"))
  | ((with_reducible refine x_divI ?hs ?ht ?_); (case hs => walk_at "sz"); (case ht => walk_at "sz"))
  | ((with_reducible refine x_modI ?hs ?_); (case hs => walk_at "sz"))
  | ((with_reducible refine x_mulI ?hs ?_); (case hs => walk_at "sz"))
  | ((with_reducible refine x_lenS ?hs ?_); (case hs => walk_at "sz"))
  | ((with_reducible refine x_slSlo ?hs ?_); (case hs => walk_at "sz"))
  | ((with_reducible refine x_slShi ?hs ?_); (case hs => walk_at "sz"))
  | ((with_reducible refine x_slSlohi ?hs ?_); (case hs => walk_at "sz"))
  | ((with_reducible refine x_slShiNeg ?hs ?_); (case hs => walk_at "sz"))
  | ((with_reducible refine x_slSloI ?ht ?hs ?_); (case ht => walk_at "sz"); (case hs => walk_at "sz"))
  | ((with_reducible refine x_slShiI ?ht ?hs ?_); (case ht => walk_at "sz"); (case hs => walk_at "sz"))
  | ((with_reducible refine x_rng1 ?hs ?ht ?_); (case hs => walk_at "sz"); (case ht => walk_at "sz"))
  | ((with_reducible refine x_rng2 ?hs ?_); (case hs => walk_at "sz"))
  | ((with_reducible refine x_newL ?hs ?_); (case hs => walk_at "sz"); intro px Hx npx ex hpx)
  | ((with_reducible refine x_newT ?hs ?_); (case hs => walk_at "sz"); intro px Hx npx ex hpx)
  | ((with_reducible apply x_lenL); (walk_at "hp"))
  | ((with_reducible apply x_refL); (walk_at "hp"))
  | ((with_reducible apply x_uL); (walk_at "hp"))
  | ((with_reducible apply x_tyL); (walk_at "hp"))
  )
local macro_rules | `(tactic| walk_at "xs") => `(tactic| repeat (walk_at "x"))
/- sizes, bounds -/
local macro_rules | `(tactic| walk_at "sz") => `(tactic| first
  | with_reducible assumption
  | (rw [sizeLine_eq]; first | omega | (simp only [List.length_cons, List.length_nil, List.length_append, List.length_map, List.length_reverse, List.length_range, List.length_drop, List.length_take, List.length_dropLast]; omega))
  | omega
  | (unfold CMul; omega)
  | (simp only [List.length_cons, List.length_nil, List.length_append, List.length_map, List.length_reverse, List.length_range, List.length_drop, List.length_take, List.length_dropLast]; omega))
/- what stands in the heap -/
local macro_rules | `(tactic| walk_at "hp") => `(tactic| first
  | assumption
  | ((with_reducible apply SqL.of); walk_at "hp")
  | ((with_reducible apply SqT.of); walk_at "hp")
  | ((with_reducible apply Ex.at_); assumption; walk_at "hp")
  | ((with_reducible apply ex_l); assumption; walk_at "hp")
  | ((with_reducible apply ex_t); assumption; walk_at "hp"))
local macro_rules | `(tactic| walk_at "ex") => `(tactic| first
  | assumption
  | exact Ex.rfl'
  | (refine Ex.trs ?_ (by assumption); walk_at "ex"))
/- an item at a place within: what is left speaks of the item -/
local macro_rules | `(tactic| walk_at "ix") => `(tactic| ((with_reducible apply x_ixLm); (walk_at "hp"); (walk_at "sz"); (walk_at "sz")))
local macro_rules | `(tactic| walk_at "is") => `(tactic| ((with_reducible apply x_ixSm); (walk_at "sz"); (walk_at "sz"); (walk_at "sz")))

local macro_rules | `(tactic| walk_at "y") => `(tactic| repeat (walk_at "x"))
section
variable {g : G} {vs : List V} {H : Hp} {Q : VK} {E : XK} {K : Frag}
theorem Sig.last_ex {S : List Nat} (h : Sig S) : ∃ z, S.getLast? = some z ∧ z ∈ S := by
  have := h.w.2.1
  refine ⟨S.getLast (fun r => by rw [r] at this; simp at this), List.getLast?_eq_getLast _, List.getLast_mem _⟩
/-- the word behind, or None: of all of them -/
theorem c_behindA {S : List Nat} {N k : Nat} {A : List (List Nat)} {w : List Nat} (h : Sig S) (hN : N ≤ 12) (hA : AllIn S N A) (hk : A[k]? = some w) (q1 : A.length = k + 1 → Q .non H) (q2 : ∀ y, A[k + 1]? = some y → Q (.str (ST y)) H) :
    sp_behind g [.str (ST w), .str (ST S), .int (N : Int)] H Q E := by
  obtain ⟨z, hz, _⟩ := h.last_ex
  have hw := (hA.mem w).mp (List.mem_of_getElem? hk)
  exact c_behind h hz hN hw (fun st => q1 (hA.end_ hk fun v hv => st.last (h.last hz) hw hv)) fun m c' y n => q2 y (hA.next hk (n.lw hw) (n.up hw) fun v hv hl => n.least (h.last hz) hw hv hl)
/-! ### early_words -/
def sp_early_words (g : G) : Sp := fun vs H Q E => (∃ (S : List Nat) (N : Nat), vs = [.str (ST S), .int (N : Int)] ∧ Sig S ∧ 1 ≤ N ∧ N ≤ 12 ∧ ((S.length ^ N ≤ 4096 ∧ ∀ p A H', AllIn S N A → H p = none → Ex H H' → H' p = some (.lst (tx A)) → Q (.ref p) H') ∨ (4096 < S.length ^ N ∧ ∀ H', Ex H H' → E (.ref g.cTooMany) none H'))) ∨
  (∃ v w sb nb, vs = [v, w] ∧ SigB g.K H v sb ∧ NumB g.K H w 12 nb ∧ ((sb = false ∧ ∀ H', Ex H H' → E (.ref g.cNoSigns) none H') ∨ (sb = true ∧ nb = false ∧ ∀ H', Ex H H' → E (.ref g.cNoCount) none H')))
theorem c_early_words {S : List Nat} {N : Nat} (h : Sig S) (h1 : 1 ≤ N) (h2 : N ≤ 12) (h3 : S.length ^ N ≤ 4096) (q : ∀ p A H', AllIn S N A → H p = none → Ex H H' → H' p = some (.lst (tx A)) → Q (.ref p) H') : sp_early_words g [.str (ST S), .int (N : Int)] H Q E :=
  .inl ⟨S, N, rfl, h, h1, h2, .inl ⟨h3, q⟩⟩
theorem c_early_wordsM {S : List Nat} {N : Nat} (h : Sig S) (h1 : 1 ≤ N) (h2 : N ≤ 12) (h3 : 4096 < S.length ^ N) (q : ∀ H', Ex H H' → E (.ref g.cTooMany) none H') : sp_early_words g [.str (ST S), .int (N : Int)] H Q E :=
  .inl ⟨S, N, rfl, h, h1, h2, .inr ⟨h3, q⟩⟩
/-- early_words: slots signs, longest, found, word -/
def t_early_words (g : G) (E : XK) : TS :=
  tSeq (tDrop (tCall (sp_need_signs g) [] E (tCons (tVar 0) (tCons (tVar 1) tNil))))
    (tSeq (tIfS (tTest (tOp uGt (tCall (sp_power g) [] E0 (tCons (tCB (rLen g.K) (tCons (tVar 0) tNil)) (tCons (tVar 1) tNil))) (tC (.int 4096)))) (tRaise g.cTooMany E) tNext)
    (tSeq (tAsg (tLst tNil) (gName 2))
    (tSeq (tAsg (tOp (rIx g.K) (tVar 0) (tC (.int 0))) (gName 3))
    (tSeq (tWhile (tTest (tOp uIsNot (tVar 3) (tC .non))) (tSeq (tDrop (tBM g.K "list" rAppend (tVar 2) (tCons (tVar 3) tNil)))
    (tAsg (tCall (sp_behind g) [] E0 (tCons (tVar 3) (tCons (tVar 0) (tCons (tVar 1) tNil)))) (gName 3))))
    (tRet (tVar 2))))))
theorem AllIn.bound {S : List Nat} {N : Nat} {A : List (List Nat)} (h : Sig S) (hA : AllIn S N A) (hN : N ≤ 12) (h3 : S.length ^ N ≤ 4096) : A.length ≤ 49152 := by
  rw [hA.len h.nd]
  exact Nat.le_trans (earlyUp_len S h.w.2.1 N) (Nat.mul_le_mul hN h3)
/-- a word, or None -/
def optV : Option (List Nat) → V
  | some w => .str (ST w)
  | none => .non
theorem p_early_words (h : sp_early_words g vs H Q E) : t_early_words g E (D0 Q) (st0 4 vs) H := by
  rcases h with ⟨S, N, rfl, hS, hN1, hN2, hor⟩ | ⟨v, w, sb, nb, rfl, hs, hn, hor⟩
  · show t_early_words g E (D0 Q) [some (.str (ST S)), some (.int (N : Int)), none, none] H
    unfold t_early_words
    have hSl := hS.le
    have hS1 := hS.w.2.1
    walk_at "y"
    refine c_need_signs hS (by omega) (by omega) fun H1 e1 => ?_
    walk_at "y"
    refine c_power (by omega) (by omega) ?_
    walk_at "y"
    rcases hor with ⟨h3, q⟩ | ⟨h3, q⟩
    · refine x_if0 (decide_eq_false (by omega)) ?_
      walk_at "y"
      rename_i p H2 np e2 hp
      have h0 : S[0]? = some (lt_ S 0) := lt_some (by omega)
      refine x_ixS (by walk_at "sz") (atI_nat (j := 0) h0) ?_
      walk_at "y"
      obtain ⟨A, hA, _⟩ := allIn_ex hS.nd N
      have hbd := hA.bound hS hN2 h3
      have hA0 : A[0]? = some [lt_ S 0] := hA.first hN1 (lt_mem (by omega)) (hS.first h0)
      have np0 := fresh_back e1 np
      refine x_whileB (fun (k : Nat) => [some (.str (ST S)), some (.int (N : Int)), some (.ref p), some (optV A[k]?)]) (fun k H' => Ex H H' ∧ k ≤ A.length ∧ H' p = some (.lst (tx (A.take k)))) (fun k => A.length - k) 0 (by rw [hA0]; rfl) ⟨Ex.trs e1 e2, by omega, hp⟩ ?_
      rintro k H3 ⟨e3, hk, hpk⟩ P hP
      walk_at "y"
      refine hP _ _ Ex.rfl' (fun hb => ?_) fun hb => ?_
      · cases hAk : A[k]? with
        | none =>
          rw [hAk] at hb
          exact absurd hb (by decide)
        | some w =>
          have hkl := (List.getElem?_eq_some_iff.mp hAk).1
          show tSeq _ _ _ [some (.str (ST S)), some (.int (N : Int)), some (.ref p), some (.str (ST w))] H3
          walk_at "y"
          refine x_append hpk (by rw [tx_len, List.length_take, sizeLine_eq]; omega) ?_
          have hpk2 : (upd H3 p (.lst (tx (A.take k) ++ [.str (ST w)]))) p = some (.lst (tx (A.take (k + 1)))) := by
            rw [upd_same, List.take_succ, hAk]
            unfold tx
            rw [List.map_append]
            rfl
          have e4 := Evl.Ex.mut (o := .lst (tx (A.take k) ++ [.str (ST w)])) e3 np0
          walk_at "y"
          refine c_behindA hS hN2 hA hAk (fun hl => ?_) fun y hy => ?_
          · refine ⟨k + 1, ?_, ⟨e4, by omega, hpk2⟩, by omega⟩
            rw [List.getElem?_eq_none (by omega)]
            rfl
          · refine ⟨k + 1, ?_, ⟨e4, by omega, hpk2⟩, by omega⟩
            rw [hy]
            rfl
      · have hl : A.length ≤ k := by
          refine Nat.le_of_not_lt fun r => ?_
          rw [List.getElem?_eq_getElem r] at hb
          have hb2 : (!decide (V.str (ST A[k]) = V.non)) = false := hb
          rw [decide_eq_false (fun z => nomatch z)] at hb2
          exact absurd hb2 (by decide)
        walk_at "y"
        rw [List.take_of_length_le hl] at hpk
        exact q p A _ hA np0 e3 hpk
    · refine x_it (decide_eq_true (by omega)) ?_
      exact x_raise (q _ e1)
  · show t_early_words g E (D0 Q) [some v, some w, none, none] H
    unfold t_early_words
    walk_at "y"
    rcases hor with ⟨rfl, q⟩ | ⟨rfl, rfl, q⟩
    · exact ⟨v, w, false, nb, rfl, hs, hn, fun _ => q, fun h => absurd h (by decide), fun h => absurd h (by decide)⟩
    · exact ⟨v, w, true, false, rfl, hs, hn, fun h => absurd h (by decide), fun _ _ => q, fun _ h => absurd h (by decide)⟩
/-! ### next_early -/
def sp_next_early (g : G) : Sp := fun vs H Q E => (∃ (w S : List Nat) (N z : Nat), vs = [.str (ST w), .str (ST S), .int (N : Int)] ∧ Sig S ∧ S.getLast? = some z ∧ 1 ≤ N ∧ N ≤ 12 ∧ Word w ∧ ((LW S N w ∧ ∀ H', Ex H H' → (Strip w N z 0 → Q .non H') ∧ (∀ m c' y, Nxt S w N z m c' y → Q (.str (ST y)) H')) ∨ (¬ LW S N w ∧ ∀ H', Ex H H' → E (.ref g.cNoWord) none H'))) ∨
  (∃ u v w sb nb, vs = [u, v, w] ∧ ((IsW g.K H u false ∧ ∀ H', Ex H H' → E (.ref g.cNoWord) none H') ∨ ∃ l, u = .str (ST l) ∧ Word l ∧ SigB g.K H v sb ∧ NumB g.K H w 12 nb ∧ ((sb = false ∧ ∀ H', Ex H H' → E (.ref g.cNoSigns) none H') ∨ (sb = true ∧ nb = false ∧ ∀ H', Ex H H' → E (.ref g.cNoCount) none H'))))
/-- next_early: slots word, signs, longest, sign -/
def t_next_early (g : G) (E : XK) : TS :=
  tSeq (tDrop (tCall (sp_need_word g) [] E (tCons (tVar 0) tNil)))
    (tSeq (tDrop (tCall (sp_need_signs g) [] E (tCons (tVar 1) (tCons (tVar 2) tNil))))
    (tSeq (tIfS (tOr (tTest (tOp uGt (tCB (rLen g.K) (tCons (tVar 0) tNil)) (tVar 2))) (tOr (tNot (tB (tCB (rAll g.K) (tCons (tLc (iU g.K (tVar 0)) (gName 3) tYes (tOp (uIn g.K) (tVar 3) (tVar 1)) [3]) tNil)))) (tNot (tB (tCall (sp_is_early g) [] E (tCons (tVar 0) tNil)))))) (tRaise g.cNoWord E) tNext)
    (tRet (tCall (sp_behind g) [] E0 (tCons (tVar 0) (tCons (tVar 1) (tCons (tVar 2) tNil)))))))
theorem p_next_early (h : sp_next_early g vs H Q E) : t_next_early g E (D0 Q) (st0 4 vs) H := by
  rcases h with ⟨w, S, N, z, rfl, hS, hz, hN1, hN2, hw, hor⟩ | ⟨u, v, w, sb, nb, rfl, hor⟩
  · show t_next_early g E (D0 Q) [some (.str (ST w)), some (.str (ST S)), some (.int (N : Int)), none] H
    unfold t_next_early
    have hSl := hS.le
    have hS1 := hS.w.2.1
    have hw2 := hw.2
    walk_at "y"
    refine c_need_word hw fun H1 e1 => ?_
    walk_at "y"
    refine c_need_signs hS (by omega) (by omega) fun H2 e2 => ?_
    have e12 := Ex.trs e1 e2
    walk_at "y"
    refine x_ifd (fun hl => ?_) fun hl => ?_
    · rcases hor with ⟨hlw, _⟩ | ⟨_, q⟩
      · have := hlw.le
        omega
      · walk_at "y"
        exact x_raise (q _ e12)
    walk_at "y"
    refine x_lcSm (fun c => .bl (decide (c ∈ S))) (by omega) (fun _ => rfl) (fun c H' hc e R hR => ?_) fun p H3 np e3 hp => ?_
    · walk_at "y"
      exact hR _ Ex.rfl'
    walk_at "y"
    refine x_all (bs := w.map fun c => decide (c ∈ S)) (SqL.of (by rw [hp, List.map_map]; rfl)) ?_
    have hall : (w.map fun c => decide (c ∈ S)).all id = decide (∀ c ∈ w, c ∈ S) := by
      rw [Bool.eq_iff_iff, List.all_eq_true, decide_eq_true_eq]
      constructor
      · intro h c hc
        exact of_decide_eq_true (h _ (List.mem_map_of_mem hc))
      · rintro h x hx
        obtain ⟨c, hc, rfl⟩ := List.mem_map.mp hx
        exact decide_eq_true (h c hc)
    rw [hall]
    walk_at "y"
    have e13 := Ex.trs e12 e3
    by_cases hsi : ∀ c ∈ w, c ∈ S
    · rw [decide_eq_true hsi]
      refine x_if0 rfl ?_
      walk_at "y"
      refine c_is_early hw fun H4 e4 => ?_
      have e14 := Ex.trs e13 e4
      walk_at "y"
      by_cases hE : Early w
      · have hlw : LW S N w := ⟨early_lynd (by omega) hE, hsi, by omega⟩
        rw [decide_eq_true hE]
        refine x_if0 rfl ?_
        walk_at "y"
        rcases hor with ⟨_, q⟩ | ⟨hno, _⟩
        · exact c_behind hS hz hN2 hlw (q _ e14).1 (q _ e14).2
        · exact absurd hlw hno
      · rw [decide_eq_false hE]
        refine x_it rfl ?_
        walk_at "y"
        rcases hor with ⟨hlw, _⟩ | ⟨_, q⟩
        · exact absurd hlw.ly.early hE
        · exact x_raise (q _ e14)
    · rw [decide_eq_false hsi]
      refine x_it rfl ?_
      walk_at "y"
      rcases hor with ⟨hlw, _⟩ | ⟨_, q⟩
      · exact absurd hlw.si hsi
      · exact x_raise (q _ e13)
  · show t_next_early g E (D0 Q) [some u, some v, some w, none] H
    unfold t_next_early
    walk_at "y"
    rcases hor with ⟨hu, q⟩ | ⟨l, rfl, hl, hs, hn, hor⟩
    · exact c_need_wordN hu q
    · refine c_need_word hl fun H1 e1 => ?_
      walk_at "y"
      rcases hor with ⟨rfl, q⟩ | ⟨rfl, rfl, q⟩
      · exact ⟨v, w, false, nb, rfl, hs.ex e1, hn.ex e1, fun _ H' e => q _ (Ex.trs e1 e), fun h => absurd h (by decide), fun h => absurd h (by decide)⟩
      · exact ⟨v, w, true, false, rfl, hs.ex e1, hn.ex e1, fun h => absurd h (by decide), fun _ _ H' e => q _ (Ex.trs e1 e), fun _ h => absurd h (by decide)⟩
end
end RW

/-! P15: the laws' looking through all words. -/
namespace RW
open PySem PySem.Spec PyProof.Rows L2
open Evl (Ex ex_l ex_t ex_rd fresh_back)
local macro_rules | `(tactic| walk_at "x") => `(tactic| first
  | ((with_reducible apply x_var); exact rfl)
  | with_reducible refine x_c ?_
  | with_reducible refine x_op ?_
  | with_reducible refine x_un ?_
  | with_reducible refine x_neg ?_
  | with_reducible refine x_addI ?_
  | with_reducible refine x_subI ?_
  | with_reducible refine x_ltI ?_
  | with_reducible refine x_ltS ?_
  | with_reducible refine x_leI ?_
  | with_reducible refine x_leS ?_
  | with_reducible refine x_gtI ?_
  | with_reducible refine x_gtS ?_
  | with_reducible refine x_geI ?_
  | with_reducible refine x_eqI ?_
  | with_reducible refine x_eqS ?_
  | with_reducible refine x_eqB ?_
  | with_reducible refine x_neI ?_
  | with_reducible refine x_neS ?_
  | with_reducible refine x_isN ?_
  | with_reducible refine x_isB ?_
  | with_reducible refine x_isNotN ?_
  | with_reducible refine x_isNotB ?_
  | with_reducible refine x_inS ?_
  | with_reducible refine x_sl ?_
  | with_reducible refine x_part ?_
  | with_reducible refine x_nopart ?_
  | with_reducible refine x_rev ?_
  | with_reducible refine x_nil ?_
  | with_reducible refine x_cons ?_
  | with_reducible refine x_lst0 ?_
  | with_reducible refine x_tup0 ?_
  | with_reducible refine x_call0 ?_
  | with_reducible refine x_callS ?_
  | with_reducible refine x_cb ?_
  | with_reducible refine x_m1 ?_
  | with_reducible refine x_m1s ?_
  | with_reducible refine x_bm ?_
  | with_reducible refine x_bm0 ?_
  | with_reducible refine x_tyS ?_
  | with_reducible refine x_max2 ?_
  | with_reducible refine x_min2 ?_
  | with_reducible refine x_seq ?_
  | with_reducible refine x_asg ?_
  | with_reducible refine x_asgG ?_
  | with_reducible refine x_ret ?_
  | with_reducible refine x_retN ?_
  | with_reducible refine x_if ?_
  | with_reducible refine x_next ?_
  | with_reducible refine x_drop ?_
  | with_reducible refine x_break ?_
  | with_reducible refine x_cont ?_
  | with_reducible refine x_par ?_
  | with_reducible refine x_par2 ?_
  | ((with_reducible apply x_aug); exact rfl)
  | with_reducible refine x_ip ?_
  | with_reducible refine x_test ?_
  | with_reducible refine x_tB ?_
  | with_reducible refine x_bl ?_
  | with_reducible refine x_and ?_
  | with_reducible refine x_or ?_
  | with_reducible refine x_not ?_
  | with_reducible refine x_andV ?_
  | with_reducible refine x_orV ?_
  | with_reducible refine x_notV ?_
  | with_reducible refine x_ifV ?_
  | with_reducible refine x_chain ?_
  | with_reducible refine x_intA ?_
  | with_reducible refine x_strA ?_
  | with_reducible refine x_yes ?_
  | with_reducible refine iteT ?_
  | with_reducible refine iteF ?_
  | with_reducible refine x_forRng1 ?_
  | with_reducible refine x_forRng2 ?_
  | with_reducible refine x_forLst ?_
  | with_reducible refine x_forU ?_
  | with_reducible refine x_lcRng1 ?_
  | with_reducible refine x_lcRng2 ?_
  | with_reducible refine x_lcLst ?_
  | with_reducible refine x_lcU ?_
  | with_reducible refine x_uS ?_
  | with_reducible refine x_gcons ?_
  | with_reducible refine x_gnil ?_
  -- with side conditions
  | ((with_reducible refine x_addS ?hs ?_); (case hs => walk_at "sz"))
  | ((with_reducible refine x_divI ?hs ?ht ?_); (case hs => walk_at "sz"); (case ht => walk_at "sz"))
  | ((with_reducible refine x_modI ?hs ?_); (case hs => walk_at "sz"))
  | ((with_reducible refine x_mulI ?hs ?_); (case hs => walk_at "sz"))
  | ((with_reducible refine x_lenS ?hs ?_); (case hs => walk_at "sz"))
  | ((with_reducible refine x_slSlo ?hs ?_); (case hs => walk_at "sz"))
  | ((with_reducible refine x_slShi ?hs ?_); (case hs => walk_at "sz"))
  | ((with_reducible refine x_slSlohi ?hs ?_); (case hs => walk_at "sz"))
  | ((with_reducible refine x_slShiNeg ?hs ?_); (case hs => walk_at "sz"))
  | ((with_reducible refine x_slSloI ?ht ?hs ?_); (case ht => walk_at "sz"); (case hs => walk_at "sz"))
  | ((with_reducible refine x_slShiI ?ht ?hs ?_); (case ht => walk_at "sz"); (case hs => walk_at "sz"))
  | ((with_reducible refine x_rng1 ?hs ?ht ?_); (case hs => walk_at "sz"); (case ht => walk_at "sz"))
  | ((with_reducible refine x_rng2 ?hs ?_); (case hs => walk_at "sz"))
  | ((with_reducible refine x_newL ?hs ?_); (case hs => walk_at "sz"); intro px Hx npx ex hpx)
  | ((with_reducible refine x_newT ?hs ?_); (case hs => walk_at "sz"); intro px Hx npx ex hpx)
  | ((with_reducible apply x_lenL); (walk_at "hp"))
  | ((with_reducible apply x_refL); (walk_at "hp"))
  | ((with_reducible apply x_uL); (walk_at "hp"))
  | ((with_reducible apply x_tyL); (walk_at "hp"))
  )
local macro_rules | `(tactic| walk_at "xs") => `(tactic| repeat (walk_at "x"))
/- sizes, bounds -/
local macro_rules | `(tactic| walk_at "sz") => `(tactic| first
  | with_reducible assumption
  | (rw [sizeLine_eq]; first | omega | (simp only [List.length_cons, List.length_nil, List.length_append, List.length_map, List.length_reverse, List.length_range, List.length_drop, List.length_take, List.length_dropLast]; omega))
  | omega
  | (unfold CMul; omega)
  | (simp only [List.length_cons, List.length_nil, List.length_append, List.length_map, List.length_reverse, List.length_range, List.length_drop, List.length_take, List.length_dropLast]; omega))
/- what stands in the heap -/
local macro_rules | `(tactic| walk_at "hp") => `(tactic| first
  | assumption
  | ((with_reducible apply SqL.of); walk_at "hp")
  | ((with_reducible apply SqT.of); walk_at "hp")
  | ((with_reducible apply Ex.at_); assumption; walk_at "hp")
  | ((with_reducible apply ex_l); assumption; walk_at "hp")
  | ((with_reducible apply ex_t); assumption; walk_at "hp"))
local macro_rules | `(tactic| walk_at "ex") => `(tactic| first
  | assumption
  | exact Ex.rfl'
  | (refine Ex.trs ?_ (by assumption); walk_at "ex"))
/- an item at a place within: what is left speaks of the item -/
local macro_rules | `(tactic| walk_at "ix") => `(tactic| ((with_reducible apply x_ixLm); (walk_at "hp"); (walk_at "sz"); (walk_at "sz")))
local macro_rules | `(tactic| walk_at "is") => `(tactic| ((with_reducible apply x_ixSm); (walk_at "sz"); (walk_at "sz"); (walk_at "sz")))

local macro_rules | `(tactic| walk_at "y") => `(tactic| repeat (walk_at "x"))
section
variable {g : G} {vs : List V} {H : Hp} {Q : VK} {E : XK} {K : Frag}
theorem tx_app2 (a b : List (List Nat)) : tx a ++ tx b = tx (a ++ b) := by unfold tx; rw [List.map_append]
/-! ### _law_longer -/
def sp_law_longer (g : G) : Sp := fun vs H Q _ => ∃ p W S, vs = [.ref p, .str (ST S)] ∧ H p = some (.lst (tx W)) ∧ W.length * S.length ≤ 100000 ∧ W.length ≤ 100000 ∧ S.length ≤ 1000 ∧ (∀ w ∈ W, w.length ≤ 1000) ∧ ∀ r H', H r = none → Ex H H' → H' r = some (.lst (tx (longer W S))) → Q (.ref r) H'
theorem c_law_longer {p : Addr} {W : List (List Nat)} {S : List Nat} (h : H p = some (.lst (tx W))) (h1 : W.length * S.length ≤ 100000) (h0 : W.length ≤ 100000) (h2 : S.length ≤ 1000) (h3 : ∀ w ∈ W, w.length ≤ 1000) (q : ∀ r H', H r = none → Ex H H' → H' r = some (.lst (tx (longer W S))) → Q (.ref r) H') : sp_law_longer g [.ref p, .str (ST S)] H Q E := ⟨p, W, S, rfl, h, h1, h0, h2, h3, q⟩
/-- _law_longer: slots _law_words, _law_signs, _law_found, _law_word, _law_sign -/
def t_law_longer (g : G) : TS :=
  tSeq (tAsg (tLst tNil) (gName 2))
    (tSeq (tFor (iU g.K (tVar 0)) (gName 3) (tAsg (tOp (uAdd g.K) (tVar 2) (tLc (iU g.K (tVar 1)) (gName 4) tYes (tOp (uAdd g.K) (tVar 3) (tVar 4)) [4])) (gName 2)))
    (tRet (tVar 2)))
theorem p_law_longer (h : sp_law_longer g vs H Q E) : t_law_longer g (D0 Q) (st0 5 vs) H := by
  obtain ⟨p, W, S, rfl, hp, hm, hWl, hS, hW, q⟩ := h
  show t_law_longer g (D0 Q) [some (.ref p), some (.str (ST S)), none, none, none] H
  unfold t_law_longer
  walk_at "y"
  rename_i r0 H1 nr0 e1 hr0
  refine x_forL (a := p) (xs := tx W) (fun i (a : Addr × Option V) => [some (.ref p), some (.str (ST S)), some (.ref a.1), a.2, none]) (fun i a H' => Ex H H' ∧ H a.1 = none ∧ H' a.1 = some (.lst (tx (longer (W.take i) S)))) (r0, none) rfl ⟨e1, nr0, hr0⟩
    (fun i a H2 I => SqL.of (I.1 _ _ hp)) (fun i v a H2 hv I => ?_) fun a H2 I => ?_
  · obtain ⟨e2, na, ha⟩ := I
    obtain ⟨w, hw, rfl⟩ : ∃ w, W[i]? = some w ∧ v = .str (ST w) := by
      unfold tx at hv
      rw [List.getElem?_map] at hv
      cases h3 : W[i]? with
      | none => rw [h3] at hv; cases hv
      | some w =>
        rw [h3] at hv
        exact ⟨w, rfl, (Option.some.inj hv).symm⟩
    have hwl := hW w (List.mem_of_getElem? hw)
    have hil := (List.getElem?_eq_some_iff.mp hw).1
    show tAsg _ _ _ [some (.ref p), some (.str (ST S)), some (.ref a.1), some (.str (ST w)), none] H2
    walk_at "y"
    refine x_lcSm (fun c => .str (ST (w ++ [c]))) (by omega) (fun _ => rfl) (fun c H' hc e R hR => ?_) fun p2 H3 np2 e3 hp2 => ?_
    · walk_at "y"
      exact hR _ Ex.rfl'
    have hl1 : (longer (W.take i) S).length ≤ 100000 := by
      rw [longer_len, List.length_take]
      exact Nat.le_trans (Nat.mul_le_mul_right _ (Nat.min_le_right _ _)) hm
    refine x_addL (e3 _ _ ha) hp2 (by rw [tx_len, List.length_map, sizeLine_eq]; omega) fun r H4 nr e4 hr => ?_
    walk_at "y"
    have e5 := Ex.trs e2 (Ex.trs e3 e4)
    refine ⟨(r, _), rfl, e5, fresh_back (Ex.trs e2 e3) nr, ?_⟩
    rw [hr, List.take_succ, hw]
    unfold longer
    rw [List.flatMap_append]
    unfold tx
    rw [List.map_append]
    simp [List.map_map]
  · obtain ⟨e2, na, ha⟩ := I
    walk_at "y"
    rw [tx_len, List.take_length] at ha
    exact q a.1 _ na e2 ha
/-! ### _law_all -/
def sp_law_all (g : G) : Sp := fun vs H Q _ => ∃ (S : List Nat) (N : Nat), vs = [.str (ST S), .int (N : Int)] ∧ Sig S ∧ N ≤ 12 ∧ S.length ^ N ≤ 4096 ∧ ∀ p A H', AllIn S N A → H p = none → Ex H H' → H' p = some (.lst (tx A)) → Q (.ref p) H'
theorem c_law_all {S : List Nat} {N : Nat} (h : Sig S) (h2 : N ≤ 12) (h3 : S.length ^ N ≤ 4096) (q : ∀ p A H', AllIn S N A → H p = none → Ex H H' → H' p = some (.lst (tx A)) → Q (.ref p) H') : sp_law_all g [.str (ST S), .int (N : Int)] H Q E := ⟨S, N, rfl, h, h2, h3, q⟩
/-- _law_all: slots _law_signs, _law_longest, _law_found, _law_words, _law_turn, _law_word -/
def t_law_all (g : G) : TS :=
  tSeq (tAsg (tLst tNil) (gName 2))
    (tSeq (tAsg (tLst (tCons (tC (.str (ST []))) tNil)) (gName 3))
    (tSeq (tFor (iRng1 (tCons (tVar 1) tNil)) (gName 4) (tSeq (tAsg (tCall (sp_law_longer g) [] E0 (tCons (tVar 3) (tCons (tVar 0) tNil))) (gName 3))
    (tAsg (tOp (uAdd g.K) (tVar 2) (tLc (iU g.K (tVar 3)) (gName 5) (tB (tCall (sp_law_early g) [] E0 (tCons (tVar 5) tNil))) (tVar 5) [5])) (gName 2))))
    (tRet (tCB (rSortedTx g.K) (tCons (tVar 2) tNil)))))
theorem earlyUp_succ (S : List Nat) (N : Nat) : earlyUp S (N + 1) = earlyUp S N ++ (wordsOf S (N + 1)).filter fun w => decide (Early w) := by
  unfold earlyUp
  rw [List.range_succ, List.flatMap_append]
  simp
/-- [w for w in .. if ..] of texts -/
theorem x_lcTx {σ : L2.St} {tt : TT} {ws : List Nat} {j : Nat} {a : Addr} {ls : List (List Nat)} (hx : SqL K H a (tx ls)) (P : List Nat → Bool) (hn : ls.length ≤ 16000000) (hw : ∀ x, wipe ((wipe σ ws).set j (some x)) ws = wipe σ ws) (hj : ∀ x, ((wipe σ ws).set j (some x))[j]? = some (some x))
    (hb : ∀ (w : List Nat) (H' : Hp), w ∈ ls → Ex H H' → ∀ R : Bool → Hp → Prop, (∀ H3, Ex H' H3 → R (P w) H3) → tt ((wipe σ ws).set j (some (.str (ST w)))) H' R)
    (q : ∀ (p : Addr) (H' : Hp), H p = none → Ex H H' → H' p = some (.lst (tx (ls.filter P))) → Q (.ref p) H') : lcGo (Itl K a) (gName j) tt (tVar j) ws σ H Q := by
  refine x_lcL hx (fun v => match v with | .str z => if P z.cps.toList = true then some v else none | _ => none) (by rw [tx_len]; exact hn) hw (fun x H' hx' e R R0 hR hR0 => ?_) fun p H' np e hp => ?_
  · obtain ⟨w, hw', rfl⟩ := List.mem_map.mp hx'
    refine hb w H' hw' e _ fun H3 e3 => ?_
    cases hP : P w with
    | true => exact x_it rfl (x_var (hj _) (hR _ _ (if_pos hP) e3))
    | false => exact x_if0 rfl (hR0 (if_neg (by rw [ST_list, hP]; decide)) _ e3)
  · rw [filt_tx P _ (fun z => rfl)] at hp
    exact q p H' np e hp
theorem pow_le {b n N : Nat} (h : 1 ≤ b) (hn : n ≤ N) (hN : b ^ N ≤ 4096) : b ^ n ≤ 4096 := Nat.le_trans (Nat.pow_le_pow_right h hn) hN
theorem words_letters {S : List Nat} (h : Letters S) {n : Nat} {w : List Nat} (hw : w ∈ wordsOf S n) : Letters w := fun c hc => h c ((mem_words.mp hw).2 c hc)
theorem p_law_all (h : sp_law_all g vs H Q E) : t_law_all g (D0 Q) (st0 6 vs) H := by
  obtain ⟨S, N, rfl, hS, hN, h3, q⟩ := h
  show t_law_all g (D0 Q) [some (.str (ST S)), some (.int (N : Int)), none, none, none, none] H
  unfold t_law_all
  have hSl := hS.le
  have hS1 := hS.w.2.1
  walk_at "y"
  rename_i f0 H1 nf0 e1 hf0 w0 H2 nw0 e2 hw0
  refine x_forR (fun i (a : Addr × Addr × Option V) => [some (.str (ST S)), some (.int (N : Int)), some (.ref a.1), some (.ref a.2.1), a.2.2, none])
    (fun i a H' => Ex H H' ∧ H' a.1 = some (.lst (tx (earlyUp S i))) ∧ H' a.2.1 = some (.lst (tx (wordsOf S i)))) (f0, w0, none) rfl ⟨Ex.trs e1 e2, e2 _ _ hf0, hw0⟩ (fun i a H3 hi I => ?_) fun a H3 I => ?_
  · obtain ⟨e3, hf, hw⟩ := I
    have hi' : i < N := by omega
    have hwl : (wordsOf S i).length ≤ 4096 := by rw [words_len]; exact pow_le hS1 (by omega) h3
    have hwl2 : (wordsOf S (i + 1)).length ≤ 4096 := by rw [words_len]; exact pow_le hS1 (by omega) h3
    show tSeq _ _ _ [some (.str (ST S)), some (.int (N : Int)), some (.ref a.1), some (.ref a.2.1), some (.int (0 + (i : Int))), none] H3
    walk_at "y"
    refine c_law_longer hw (by rw [← longer_len]; exact Nat.le_trans hwl2 (by decide)) (by omega) (by omega) (fun w hw' => by rw [(mem_words.mp hw').1]; omega) fun r H4 nr e4 hr => ?_
    have hr' : H4 r = some (.lst (tx (wordsOf S (i + 1)))) := hr
    walk_at "y"
    refine x_lcTx (SqL.of hr') (fun w => decide (Early w)) (by omega) (fun _ => rfl) (fun _ => rfl) (fun w H' hw' e R hR => ?_) fun p2 H5 np2 e5 hp2 => ?_
    · walk_at "y"
      refine c_law_early (by rw [(mem_words.mp hw').1]; omega) (words_letters hS.w.1 hw') fun H6 e6 => ?_
      walk_at "y"
      exact hR _ e6
    have hfl := List.length_filter_le (fun w => decide (Early w)) (wordsOf S (i + 1))
    have hel : (earlyUp S i).length ≤ 49152 := Nat.le_trans (earlyUp_len S hS1 i) (Nat.mul_le_mul (show i ≤ 12 by omega) (pow_le hS1 (by omega) h3))
    refine x_addL (e5 _ _ (e4 _ _ hf)) hp2 (by rw [tx_len, tx_len, sizeLine_eq]; omega) fun p3 H6 np3 e6 hp3 => ?_
    walk_at "y"
    refine ⟨(p3, r, _), rfl, Ex.trs e3 (Ex.trs e4 (Ex.trs e5 e6)), ?_, e6 _ _ (e5 _ _ hr')⟩
    rw [hp3, earlyUp_succ, tx_app2]
  · obtain ⟨e3, hf, hw⟩ := I
    rw [show ((N : Int)).toNat = N by omega] at hf
    walk_at "y"
    refine x_sortedL (SqL.of hf) fun A p H4 hperm hasc np e4 hp => ?_
    exact q p A H4 (allIn_of hS.nd hperm hasc) (fresh_back e3 np) (Ex.trs e3 e4) hp
/-! ### signs drawn -/
theorem sig_of {L : List Nat} {ys : List (List Nat)} (hp : ys.Perm (signs L)) (ha : Asc ys) (hL : Letters L) (h1 : 1 ≤ L.length) (h6 : L.length ≤ 6) (hn : L.Pairwise fun a b => a ≠ b) : Sig ys.flatten ∧ ys.flatten.length = L.length := by
  have hys : ys = signs ys.flatten := by
    have hs : ∀ y ∈ ys, ∃ c, y = [c] := fun y hy => by
      obtain ⟨c, _, rfl⟩ := List.mem_map.mp (hp.mem_iff.mp hy)
      exact ⟨c, rfl⟩
    clear hp ha
    induction ys with
    | nil => rfl
    | cons y r ih =>
      obtain ⟨c, rfl⟩ := hs y List.mem_cons_self
      rw [List.flatten_cons]
      show [c] :: r = [c] :: signs r.flatten
      rw [← ih fun z hz => hs z (List.mem_cons_of_mem _ hz)]
  have hfl := signs_perm hL hp
  have hperm : ys.flatten.Perm L := by
    have := hp.flatten
    rwa [signs_flat] at this
  refine ⟨⟨⟨hfl.1, by omega, by omega⟩, by omega, ?_⟩, hfl.2⟩
  have hnd : ys.flatten.Pairwise fun a b => a ≠ b := (hperm.pairwise_iff (fun {a b} h => h.symm)).mpr hn
  have hle : ys.flatten.Pairwise fun a b => ¬ b < a := by
    unfold Asc at ha
    rw [hys] at ha
    unfold signs at ha
    rw [List.pairwise_map] at ha
    exact ha.imp fun h r => h (one_lt2.mpr r)
  exact (List.Pairwise.and hle hnd).imp fun {a b} h => by have := h.1; have := h.2; omega
end
end RW

/-! P16: what is told, an error or not. -/
namespace RW
open PySem PySem.Spec PyProof.Rows L2
open Evl (Ex ex_l ex_t ex_rd fresh_back)
/-- an error of the class at D is a WordError -/
def ErrW (g : G) (D : Addr) : Prop := PySem.W.kitOne g.K (.ref D) (.ref g.cWordError) = some true
/-- what is no error -/
structure NotErr (g : G) : Prop where
  l : PySem.W.kitOne g.K (.type "list") (.ref g.cWordError) = some false
  s : PySem.W.kitOne g.K (.type "str") (.ref g.cWordError) = some false
  n : PySem.W.kitOne g.K (.type "NoneType") (.ref g.cWordError) = some false
  i : PySem.W.kitOne g.K (.type "int") (.ref g.cWordError) = some false
theorem kit_sub {K : Frag} {C D : Addr} (hd : PySem.W.hasDictIn K C = true) (ht : PySem.W.typeIn K (.ref C) = some (.type "type")) (hs : PySem.W.subIn K (.ref D) (.ref C) = some true) : PySem.W.kitOne K (.ref D) (.ref C) = some true := by
  unfold PySem.W.kitOne
  split
  · rfl
  · exact kit_cls hd ht hs
theorem kit_tyno {K : Frag} {C : Addr} {T : String} (hd : PySem.W.hasDictIn K C = true) (ht : PySem.W.typeIn K (.ref C) = some (.type "type")) (hs : PySem.W.subIn K (.type T) (.ref C) = some false) : PySem.W.kitOne K (.type T) (.ref C) = some false := kit_cls hd ht hs
section
variable {g : G} {H : Hp} {Q : VK} {K : Frag}
theorem x_isTW {v : V} {T : String} {C : Addr} {b : Bool} (h : TyX K H v (.type T)) (hk : PySem.W.kitOne K (.type T) (.ref C) = some b) (q : Q (.bl b) H) : rIsU K [v, .ref C] H Q := .inl ⟨v, .ref C, _, _, b, rfl, .own C, h, hk, q⟩
theorem bad_longs {v : V} (hv : v ∈ [V.int 0, V.int 13, V.int (-1), V.non, V.bl true, V.str (ST [51]), V.str (ST [50, 46, 53])]) : NumB K H v 12 false := by
  simp only [List.mem_cons, List.not_mem_nil, or_false] at hv
  rcases hv with rfl | rfl | rfl | rfl | rfl | rfl | rfl
  · exact .inl ⟨0, rfl, by decide⟩
  · exact .inl ⟨13, rfl, by decide⟩
  · exact .inl ⟨-1, rfl, by decide⟩
  · exact .inr ⟨_, .base .non, rfl, .inl (by decide +kernel)⟩
  · exact .inr ⟨_, .base (.bl _), rfl, .inr ⟨by decide +kernel, by decide +kernel⟩⟩
  · exact .inr ⟨_, .base (.str _), rfl, .inl (by decide +kernel)⟩
  · exact .inr ⟨_, .base (.str _), rfl, .inl (by decide +kernel)⟩
theorem no_sig {S : List Nat} (h : Word S) (n : ¬ Sig S) : SigB K H (.str (ST S)) false := .inr ⟨S, rfl, h, by simp [n]⟩
theorem no_sigW {v : V} (h : IsW K H v false) : SigB K H v false := .inl ⟨h, rfl⟩
theorem word_dec {S : List Nat} (h : S.all (fun c => decide (97 ≤ c ∧ c ≤ 122)) = true) (h1 : 1 ≤ S.length) (h2 : S.length ≤ 300) : Word S := ⟨fun c hc => by
    have h3 := List.all_eq_true.mp h c hc
    exact of_decide_eq_true (p := 97 ≤ c ∧ c ≤ 122) h3, h1, h2⟩
theorem bad_signs {S : List Nat} (hS : Sig S) {v : V} (hv : v ∈ [V.non, V.str (ST []), V.str (ST [98, 97]), V.str (ST [97, 97]), V.str (ST [97, 98, 99, 100, 101, 102, 103]), V.str (ST [97, 66]), V.int 5, V.str (ST (S ++ S))]) : SigB K H v false := by
  simp only [List.mem_cons, List.not_mem_nil, or_false] at hv
  rcases hv with rfl | rfl | rfl | rfl | rfl | rfl | rfl | rfl
  · exact no_sigW (.inr ⟨_, .base .non, by decide +kernel, rfl⟩)
  · exact no_sigW (noW (by decide) fun w => absurd w.2.1 (by decide))
  · exact no_sig (word_dec (by decide) (by decide) (by decide)) fun h => absurd h.up (by decide)
  · exact no_sig (word_dec (by decide) (by decide) (by decide)) fun h => absurd h.up (by decide)
  · exact no_sig (word_dec (by decide) (by decide) (by decide)) fun h => absurd h.le (by decide)
  · exact no_sigW (noW (by decide) (noWc 66 (by decide) (by decide)))
  · exact no_sigW (.inr ⟨_, .base (.int _), by decide +kernel, rfl⟩)
  · have h1 := hS.w.2.1
    have h2 := hS.le
    refine no_sig ⟨hS.w.1.app hS.w.1, by rw [List.length_append]; omega, by rw [List.length_append]; omega⟩ fun h => ?_
    have h3 := (List.pairwise_append.mp h.up).2.2 _ (lt_mem (v := S) (i := 0) (by omega)) _ (lt_mem (v := S) (i := 0) (by omega))
    omega
theorem sig_dec {S : List Nat} (h : S.all (fun c => decide (97 ≤ c ∧ c ≤ 122)) = true) (h1 : 1 ≤ S.length) (h2 : S.length ≤ 6) (h3 : S.Pairwise fun a b => a < b) : Sig S := ⟨word_dec h h1 (by omega), h2, h3⟩
end
end RW

/-! P17: the early word under a word; raised by the law's own words. -/
namespace RW
open PySem PySem.Spec PyProof.Rows L2
open Evl (Ex ex_l ex_t ex_rd fresh_back)
local macro_rules | `(tactic| walk_at "x") => `(tactic| first
  | ((with_reducible apply x_var); exact rfl)
  | with_reducible refine x_c ?_
  | with_reducible refine x_op ?_
  | with_reducible refine x_un ?_
  | with_reducible refine x_neg ?_
  | with_reducible refine x_addI ?_
  | with_reducible refine x_subI ?_
  | with_reducible refine x_ltI ?_
  | with_reducible refine x_ltS ?_
  | with_reducible refine x_leI ?_
  | with_reducible refine x_leS ?_
  | with_reducible refine x_gtI ?_
  | with_reducible refine x_gtS ?_
  | with_reducible refine x_geI ?_
  | with_reducible refine x_eqI ?_
  | with_reducible refine x_eqS ?_
  | with_reducible refine x_eqB ?_
  | with_reducible refine x_neI ?_
  | with_reducible refine x_neS ?_
  | with_reducible refine x_isN ?_
  | with_reducible refine x_isB ?_
  | with_reducible refine x_isNotN ?_
  | with_reducible refine x_isNotB ?_
  | with_reducible refine x_inS ?_
  | with_reducible refine x_sl ?_
  | with_reducible refine x_part ?_
  | with_reducible refine x_nopart ?_
  | with_reducible refine x_rev ?_
  | with_reducible refine x_nil ?_
  | with_reducible refine x_cons ?_
  | with_reducible refine x_lst0 ?_
  | with_reducible refine x_tup0 ?_
  | with_reducible refine x_call0 ?_
  | with_reducible refine x_callS ?_
  | with_reducible refine x_cb ?_
  | with_reducible refine x_m1 ?_
  | with_reducible refine x_m1s ?_
  | with_reducible refine x_bm ?_
  | with_reducible refine x_bm0 ?_
  | with_reducible refine x_tyS ?_
  | with_reducible refine x_max2 ?_
  | with_reducible refine x_min2 ?_
  | with_reducible refine x_seq ?_
  | with_reducible refine x_asg ?_
  | with_reducible refine x_asgG ?_
  | with_reducible refine x_ret ?_
  | with_reducible refine x_retN ?_
  | with_reducible refine x_if ?_
  | with_reducible refine x_next ?_
  | with_reducible refine x_drop ?_
  | with_reducible refine x_break ?_
  | with_reducible refine x_cont ?_
  | with_reducible refine x_par ?_
  | with_reducible refine x_par2 ?_
  | ((with_reducible apply x_aug); exact rfl)
  | with_reducible refine x_ip ?_
  | with_reducible refine x_test ?_
  | with_reducible refine x_tB ?_
  | with_reducible refine x_bl ?_
  | with_reducible refine x_and ?_
  | with_reducible refine x_or ?_
  | with_reducible refine x_not ?_
  | with_reducible refine x_andV ?_
  | with_reducible refine x_orV ?_
  | with_reducible refine x_notV ?_
  | with_reducible refine x_ifV ?_
  | with_reducible refine x_chain ?_
  | with_reducible refine x_intA ?_
  | with_reducible refine x_strA ?_
  | with_reducible refine x_yes ?_
  | with_reducible refine iteT ?_
  | with_reducible refine iteF ?_
  | with_reducible refine x_forRng1 ?_
  | with_reducible refine x_forRng2 ?_
  | with_reducible refine x_forLst ?_
  | with_reducible refine x_forU ?_
  | with_reducible refine x_lcRng1 ?_
  | with_reducible refine x_lcRng2 ?_
  | with_reducible refine x_lcLst ?_
  | with_reducible refine x_lcU ?_
  | with_reducible refine x_uS ?_
  | with_reducible refine x_gcons ?_
  | with_reducible refine x_gnil ?_
  -- with side conditions
  | ((with_reducible refine x_addS ?hs ?_); (case hs => walk_at "sz"))
  | ((with_reducible refine x_divI ?hs ?ht ?_); (case hs => walk_at "sz"); (case ht => walk_at "sz"))
  | ((with_reducible refine x_modI ?hs ?_); (case hs => walk_at "sz"))
  | ((with_reducible refine x_mulI ?hs ?_); (case hs => walk_at "sz"))
  | ((with_reducible refine x_lenS ?hs ?_); (case hs => walk_at "sz"))
  | ((with_reducible refine x_slSlo ?hs ?_); (case hs => walk_at "sz"))
  | ((with_reducible refine x_slShi ?hs ?_); (case hs => walk_at "sz"))
  | ((with_reducible refine x_slSlohi ?hs ?_); (case hs => walk_at "sz"))
  | ((with_reducible refine x_slShiNeg ?hs ?_); (case hs => walk_at "sz"))
  | ((with_reducible refine x_slSloI ?ht ?hs ?_); (case ht => walk_at "sz"); (case hs => walk_at "sz"))
  | ((with_reducible refine x_slShiI ?ht ?hs ?_); (case ht => walk_at "sz"); (case hs => walk_at "sz"))
  | ((with_reducible refine x_rng1 ?hs ?ht ?_); (case hs => walk_at "sz"); (case ht => walk_at "sz"))
  | ((with_reducible refine x_rng2 ?hs ?_); (case hs => walk_at "sz"))
  | ((with_reducible refine x_newL ?hs ?_); (case hs => walk_at "sz"); intro px Hx npx ex hpx)
  | ((with_reducible refine x_newT ?hs ?_); (case hs => walk_at "sz"); intro px Hx npx ex hpx)
  | ((with_reducible apply x_lenL); (walk_at "hp"))
  | ((with_reducible apply x_refL); (walk_at "hp"))
  | ((with_reducible apply x_uL); (walk_at "hp"))
  | ((with_reducible apply x_tyL); (walk_at "hp"))
  )
local macro_rules | `(tactic| walk_at "xs") => `(tactic| repeat (walk_at "x"))
/- sizes, bounds -/
local macro_rules | `(tactic| walk_at "sz") => `(tactic| first
  | with_reducible assumption
  | (rw [sizeLine_eq]; first | omega | (simp only [List.length_cons, List.length_nil, List.length_append, List.length_map, List.length_reverse, List.length_range, List.length_drop, List.length_take, List.length_dropLast]; omega))
  | omega
  | (unfold CMul; omega)
  | (simp only [List.length_cons, List.length_nil, List.length_append, List.length_map, List.length_reverse, List.length_range, List.length_drop, List.length_take, List.length_dropLast]; omega))
/- what stands in the heap -/
local macro_rules | `(tactic| walk_at "hp") => `(tactic| first
  | assumption
  | ((with_reducible apply SqL.of); walk_at "hp")
  | ((with_reducible apply SqT.of); walk_at "hp")
  | ((with_reducible apply Ex.at_); assumption; walk_at "hp")
  | ((with_reducible apply ex_l); assumption; walk_at "hp")
  | ((with_reducible apply ex_t); assumption; walk_at "hp"))
local macro_rules | `(tactic| walk_at "ex") => `(tactic| first
  | assumption
  | exact Ex.rfl'
  | (refine Ex.trs ?_ (by assumption); walk_at "ex"))
/- an item at a place within: what is left speaks of the item -/
local macro_rules | `(tactic| walk_at "ix") => `(tactic| ((with_reducible apply x_ixLm); (walk_at "hp"); (walk_at "sz"); (walk_at "sz")))
local macro_rules | `(tactic| walk_at "is") => `(tactic| ((with_reducible apply x_ixSm); (walk_at "sz"); (walk_at "sz"); (walk_at "sz")))

local macro_rules | `(tactic| walk_at "y") => `(tactic| repeat (walk_at "x"))
theorem root_ex {l : List Nat} (h : 1 ≤ l.length) : ∃ r, RootAt l r := by
  have go : ∀ m, ∃ p, p ≤ m ∧ (∀ q, 1 ≤ q → q < p → ¬ IsPow l q) ∧ (p = m ∨ (1 ≤ p ∧ IsPow l p)) := by
    intro m
    induction m with
    | zero => exact ⟨0, by omega, fun q h1 h2 => by omega, .inl rfl⟩
    | succ m ih =>
      obtain ⟨p, h1, h2, h3⟩ := ih
      by_cases c : 1 ≤ p ∧ IsPow l p
      · exact ⟨p, by omega, h2, .inr c⟩
      · have h4 : p = m := by
          rcases h3 with h | h
          · exact h
          · exact absurd h c
        subst h4
        refine ⟨p + 1, by omega, fun q hq hq2 hp => ?_, .inl rfl⟩
        by_cases e : q = p
        · subst e
          exact c ⟨hq, hp⟩
        · exact h2 q hq (by omega) hp
  obtain ⟨p, h1, h2, h3⟩ := go l.length
  have self : IsPow l l.length := ⟨Nat.mod_self _, by rw [Nat.div_self (by omega), List.take_length, rep_succ, rep_zero, List.append_nil]⟩
  rcases h3 with rfl | ⟨h3, h4⟩
  · exact ⟨l.length, by omega, by omega, self, h2⟩
  · exact ⟨p, h3, h1, h4, h2⟩
theorem cyc_turn {w : List Nat} {p : Nat} (h : p < w.length) (t : Nat) : cyc (turnL w p) t = cyc w (p + t) := by
  have hl : (turnL w p).length = w.length := turnL_len (by omega)
  have h1 : cyc (turnL w p) t = lt_ (turnL w p) (t % w.length) := by
    unfold cyc lt_
    rw [hl]
  have hm : t % w.length < w.length := Nat.mod_lt _ (by omega)
  have h2 : lt_ (turnL w p) (t % w.length) = cyc w (p + t % w.length) := by
    rw [turnL_fl h]
    refine lt_get ?_
    unfold fl
    rw [List.getElem?_map, List.getElem?_range hm]
    rfl
  rw [h1, h2]
  unfold cyc
  rw [Nat.add_mod_mod]
/-- the least turning is none of its turnings' greater -/
theorem min_turn_least {w f : List Nat} (hf : f ∈ turnsL w) (hmin : ∀ y ∈ turnsL w, ¬ y < f) : ∀ i, i < f.length → ¬ FLt (fun t => cyc f (i + t)) (cyc f) f.length := fun i hi hlt => by
  obtain ⟨p, hp, rfl⟩ := turnsL_mem.mp hf
  have hl : (turnL w p).length = w.length := turnL_len (by omega)
  rw [hl] at hi hlt
  have hn : 0 < w.length := by omega
  refine hmin (turnL w ((p + i) % w.length)) (turnsL_mem.mpr ⟨_, Nat.mod_lt _ hn, rfl⟩) ?_
  rw [turnL_fl (Nat.mod_lt _ hn), turnL_fl hp, fl_lt]
  refine hlt.congr (fun t _ => ?_) fun t _ => cyc_turn hp t
  rw [cyc_turn hp]
  unfold cyc
  rw [Nat.mod_add_mod, Nat.add_assoc]
section
variable {g : G} {vs : List V} {H : Hp} {Q : VK} {E : XK} {K : Frag}
/-! ### _law_least -/
def sp_law_least (g : G) : Sp := fun vs H Q _ => ∃ w, vs = [.str (ST w)] ∧ 1 ≤ w.length ∧ w.length ≤ 100 ∧ ∀ u H', Lynd u → (∀ c ∈ u, c ∈ w) → u.length ≤ w.length → Ex H H' → Q (.str (ST u)) H'
theorem c_law_least {w : List Nat} (h : 1 ≤ w.length) (h2 : w.length ≤ 100) (q : ∀ u H', Lynd u → (∀ c ∈ u, c ∈ w) → u.length ≤ w.length → Ex H H' → Q (.str (ST u)) H') : sp_law_least g [.str (ST w)] H Q E := ⟨w, rfl, h, h2, q⟩
/-- _law_least: slots _law_word, _law_form, _law_long, _law_one -/
def t_law_least (g : G) : TS :=
  tSeq (tAsg (tCB (rMinU g.K) (tCons (tCall (sp_law_turnings g) [] E0 (tCons (tVar 0) tNil)) tNil)) (gName 1))
    (tSeq (tAsg (tLc (iRng2 (tCons (tC (.int 1)) (tCons (tOp (uAdd g.K) (tCB (rLen g.K) (tCons (tVar 1) tNil)) (tC (.int 1))) tNil))) (gName 3) (tAnd (tTest (tOp (uEq g.K) (tOp uMod (tCB (rLen g.K) (tCons (tVar 1) tNil)) (tVar 3)) (tC (.int 0)))) (tTest (tOp (uEq g.K) (tOp uMul (tSl (rSlU g.K) (tVar 1) tNoPart (tPart (tVar 3))) (tOp uDiv (tCB (rLen g.K) (tCons (tVar 1) tNil)) (tVar 3))) (tVar 1)))) (tVar 3) [3]) (gName 2))
    (tRet (tSl (rSlU g.K) (tVar 1) tNoPart (tPart (tOp (rIx g.K) (tVar 2) (tC (.int 0)))))))
theorem p_law_least (h : sp_law_least g vs H Q E) : t_law_least g (D0 Q) (st0 4 vs) H := by
  obtain ⟨w, rfl, h1, h2, q⟩ := h
  show t_law_least g (D0 Q) [some (.str (ST w)), none, none, none] H
  unfold t_law_least
  walk_at "y"
  refine c_law_turnings (by omega) fun p H1 np e1 hp => ?_
  walk_at "y"
  refine x_minL (SqL.of hp) ?_ fun f hf hmin => ?_
  · intro z
    have := turnsL_len w
    rw [z] at this
    simp at this
    omega
  have hfl := turnsL_lens f hf
  walk_at "y"
  refine x_lcRf (fun i => decide (f.length % (i + 1) = 0) && decide (rep (f.length / (i + 1)) (f.take (i + 1)) = f)) (by omega) (fun _ => rfl) (fun _ => rfl) (fun i H' hi e R hR => ?_) fun ps H4 nps e4 hps => ?_
  · rw [show (1 + (i : Int)) = ((i + 1 : Nat) : Int) by omega]
    walk_at "y"
    have e3 := Int.natCast_emod f.length (i + 1)
    have e4 := Int.natCast_ediv f.length (i + 1)
    rw [← e3]
    refine x_ifd (fun hm => ?_) fun hm => ?_
    · have hm' : f.length % (i + 1) = 0 := by omega
      walk_at "y"
      rw [← e4]
      have hsz : (f.take (i + 1)).length * (f.length / (i + 1)) ≤ 100 * 100 := Nat.mul_le_mul (show (f.take (i + 1)).length ≤ 100 by rw [List.length_take]; omega) (show f.length / (i + 1) ≤ 100 from Nat.le_trans (Nat.div_le_self _ _) (by omega))
      refine x_mulS (Int.natCast_nonneg _) (by have := Nat.div_le_self f.length (i + 1); omega) (by rw [sizeLine_eq]; exact Nat.le_trans hsz (by decide)) ?_
      walk_at "y"
      have := hR _ Ex.rfl'
      rw [decide_eq_true hm', Bool.true_and] at this
      exact this
    · have hm' : ¬ f.length % (i + 1) = 0 := by omega
      have := hR _ Ex.rfl'
      rw [decide_eq_false hm', Bool.false_and] at this
      exact this
  obtain ⟨r, hr⟩ := root_ex (l := f) (by omega)
  have r1 := hr.1
  have r2 := hr.2.1
  obtain ⟨tl, htl⟩ := filter_head (P := fun i => decide (f.length % (i + 1) = 0) && decide (rep (f.length / (i + 1)) (f.take (i + 1)) = f)) (n := ((f.length : Int) + 1 - 1).toNat) (L := r - 1) (by omega)
    (by
      show (decide (f.length % (r - 1 + 1) = 0) && decide (rep (f.length / (r - 1 + 1)) (f.take (r - 1 + 1)) = f)) = true
      rw [show r - 1 + 1 = r by omega]
      have := hr.2.2.1
      simp [this.1, this.2])
    fun x hx => by
      have := hr.2.2.2 (x + 1) (by omega) (by omega)
      unfold IsPow at this
      rw [Bool.and_eq_false_iff]
      by_cases c : f.length % (x + 1) = 0
      · exact .inr (decide_eq_false fun z => this ⟨c, z⟩)
      · exact .inl (decide_eq_false c)
  rw [htl] at hps
  walk_at "y"
  refine x_ixL (v := .int (r : Int)) (SqL.of hps) ?_ ?_
  · have e0 : 1 + ((r - 1 : Nat) : Int) = (r : Int) := by omega
    show atI (ixs ((1 + ((r - 1 : Nat) : Int)) :: _)) 0 = _
    rw [e0]
    exact atI_nat (j := 0) rfl
  walk_at "y"
  obtain ⟨k, hk, rfl⟩ := turnsL_mem.mp hf
  refine q _ _ (root_lynd hr (min_turn_least hf hmin)) (fun c hc => ?_) (by rw [List.length_take]; omega) (Ex.trs e1 e4)
  have := List.mem_of_mem_take hc
  unfold turnL at this
  rcases List.mem_append.mp this with h | h
  · exact List.mem_of_mem_drop h
  · exact List.mem_of_mem_take h
end
/-! ### the next one is the only one -/
theorem Strip.uniq {w : List Nat} {N z m m' : Nat} (a : Strip w N z m) (b : Strip w N z m') : m = m' := by
  have key : ∀ {m m' : Nat}, Strip w N z m → Strip w N z m' → ¬ m < m' := fun {m m'} a b h => by
    rcases b.ne with r | r
    · omega
    · exact r (a.zz (m' - 1) (by omega) (by have := b.le; omega))
  have h1 := key a b
  have h2 := key b a
  omega
theorem Nxt.uniq {S w y y' : List Nat} {N z m m' c c' : Nat} (a : Nxt S w N z m c y) (b : Nxt S w N z m' c' y') : y = y' := by
  obtain rfl := a.st.uniq b.st
  have hc : c = c' := Nat.le_antisymm (a.nx _ b.cs b.lt) (b.nx _ a.cs a.lt)
  subst hc
  apply list_ext (by rw [a.len, b.len])
  intro i hi
  rw [a.len] at hi
  by_cases e : i = m - 1
  · rw [e, a.la, b.la]
  · rw [a.eq i (by omega), b.eq i (by omega)]
end RW

/-! M13: words in order, the least turning's own ones, two early ones put together. -/
namespace RW
theorem app_lt {a b x y : List Nat} (hl : a.length = b.length) (h : a < b) : a ++ x < b ++ y := by
  rcases lt_iff'.mp h with ⟨i, h1, h2, h3, h4⟩ | ⟨h1, _⟩
  · refine lt_iff'.mpr (.inl ⟨i, by rw [List.length_append]; omega, by rw [List.length_append]; omega, fun j hj => ?_, ?_⟩)
    · rw [lt_app, lt_app, if_pos (by omega), if_pos (by omega)]
      exact h3 j hj
    · rw [lt_app, lt_app, if_pos h1, if_pos h2]
      exact h4
  · omega
theorem words_up {S : List Nat} (hS : S.Pairwise fun a b => a < b) : ∀ n, (wordsOf S n).Pairwise fun a b => a < b
  | 0 => by
    unfold wordsOf
    simp
  | n + 1 => by
    have ih := words_up hS n
    unfold wordsOf longer
    rw [List.flatMap, List.pairwise_flatten]
    refine ⟨fun l hl => ?_, ?_⟩
    · obtain ⟨w, _, rfl⟩ := List.mem_map.mp hl
      rw [List.pairwise_map]
      refine hS.imp fun {c d} h => lt_iff'.mpr (.inl ⟨w.length, by simp, by simp, fun j hj => ?_, ?_⟩)
      · rw [lt_app, lt_app, if_pos hj, if_pos hj]
      · rw [lt_app, lt_app, if_neg (by omega), if_neg (by omega), Nat.sub_self]
        exact h
    · rw [List.pairwise_map]
      refine (List.Pairwise.and_mem.mp ih).imp fun {a b} h x hx y hy => ?_
      obtain ⟨c, _, rfl⟩ := List.mem_map.mp hx
      obtain ⟨d, _, rfl⟩ := List.mem_map.mp hy
      exact app_lt (by rw [(mem_words.mp h.1).1, (mem_words.mp h.2.1).1]) h.2.2
/-- the early ones of one length, in both ways -/
theorem all_len {S : List Nat} {N n : Nat} {A : List (List Nat)} (hS : S.Pairwise fun a b => a < b) (hA : AllIn S N A) (h1 : 1 ≤ n) (h2 : n ≤ N) : (wordsOf S n).filter (fun w => decide (Early w)) = A.filter fun w => decide (w.length = n) := by
  refine rising_uniq ((words_up hS n).filter _) (hA.up.filter _) fun v => ?_
  rw [List.mem_filter, List.mem_filter, decide_eq_true_eq, decide_eq_true_eq, mem_words, hA.mem]
  constructor
  · rintro ⟨⟨h3, h4⟩, h5⟩
    exact ⟨⟨early_lynd (by omega) h5, h4, by omega⟩, h3⟩
  · rintro ⟨h3, h4⟩
    exact ⟨⟨h4, h3.si⟩, h3.ly.early⟩
theorem least_minT {l : List Nat} {p : Nat} (L : LeastAt (cyc l) l.length p) : turnL l p = minT l := by
  refine minT_of (turnsL_mem.mpr ⟨p, L.1, rfl⟩) fun y hy => ?_
  obtain ⟨q, hq, rfl⟩ := turnsL_mem.mp hy
  rw [turnL_fl hq, turnL_fl L.1, fl_lt]
  exact L.2.1 q hq
theorem pow_turn {w : List Nat} {q : Nat} (h1 : 1 ≤ q) (h2 : q < w.length) (h : IsPow w q) : turnL w q = w := by
  obtain ⟨hm, hr⟩ := h
  have hper := (pow_per (by omega) h1 (by omega) hm).mp hr
  obtain ⟨k, hk⟩ := Nat.dvd_of_mod_eq_zero hm
  refine list_ext (by unfold turnL; simp; omega) fun i hi => ?_
  have hl : (turnL w q).length = w.length := by unfold turnL; simp; omega
  rw [hl] at hi
  unfold turnL
  rw [lt_app, List.length_drop]
  have hmod : ∀ t, t < w.length → lt_ w t = lt_ w (t % q) := fun t ht => by
    have h3 := per_mul hper (t / q) (t % q) (by rw [Nat.mul_comm, Nat.mod_add_div]; exact ht)
    rw [Nat.mul_comm, Nat.mod_add_div] at h3
    exact h3.symm
  split
  · rename_i hi2
    rw [lt_drop, hmod (q + i) (by omega), hmod i hi, Nat.add_mod_left]
  · rename_i hi2
    rw [lt_take (by omega), hmod i hi, hmod (i - (w.length - q)) (by omega)]
    congr 1
    have : i = (i - (w.length - q)) + q * (k - 1) := by
      cases k with
      | zero => rw [Nat.mul_zero] at hk; omega
      | succ k =>
        rw [Nat.mul_succ] at hk
        rw [Nat.add_sub_cancel]
        omega
    conv => rhs; rw [this]
    rw [Nat.add_mul_mod_self_left]
/-- a word is early just where it is its least turning, and its root once -/
theorem early_iff {w : List Nat} {p r : Nat} (L : LeastAt (cyc w) w.length p) (R : RootAt w r) : (turnL w p = w ∧ w.length / r = 1) ↔ Early w := by
  have hp := L.1
  obtain ⟨r1, r2, r3, r4⟩ := id R
  constructor
  · rintro ⟨h1, h2⟩
    have hr : r = w.length := by
      obtain ⟨k, hk⟩ := Nat.dvd_of_mod_eq_zero r3.1
      rw [hk, Nat.mul_div_cancel_left _ r1] at h2
      rw [hk, h2, Nat.mul_one]
    subst hr
    have := root_lynd R fun i hi hlt => ?_
    · rw [List.take_length] at this
      exact this.early
    · refine L.2.1 i hi ?_
      rw [turnL_fl hp] at h1
      have h1' : fl (fun t => cyc w (p + t)) w.length = fl (cyc w) w.length := h1.trans (self_eq w)
      have h3 := fl_eq.mp h1'
      exact hlt.congr (fun _ _ => rfl) fun t ht => (h3 t ht).symm
  · intro he
    have ly := early_lynd (by omega) he
    have hp0 : p = 0 := by
      refine Nat.eq_zero_of_not_pos fun h => ?_
      have h2 := ly.rot_lt h hp
      have h3 : turnL w 0 < turnL w p := by rw [turnL_zero]; exact h2
      rw [turnL_fl (by omega), turnL_fl hp, fl_lt] at h3
      exact L.2.1 0 (by omega) h3
    subst hp0
    refine ⟨turnL_zero w, ?_⟩
    have hr : r = w.length := by
      refine Nat.le_antisymm r2 (Nat.le_of_not_lt fun h => ?_)
      have h2 := ly.rot_lt r1 h
      have h3 := pow_turn r1 h r3
      unfold turnL at h3
      rw [h3] at h2
      exact List.lt_irrefl _ h2
    rw [hr]
    exact Nat.div_self (by omega)
/-- two early ones, the less ahead, are an early one -/
theorem lynd_app {a b : List Nat} (ha : Lynd a) (hb : Lynd b) (h : a < b) : Lynd (a ++ b) := by
  have ha0 := ha.pos
  have hb0 := hb.pos
  have hl : (a ++ b).length = a.length + b.length := List.length_append
  -- the whole against the second
  have base : ∃ t, t < b.length ∧ (∀ s, s < t → lt_ (a ++ b) s = lt_ b s) ∧ lt_ (a ++ b) t < lt_ b t := by
    rcases lt_iff'.mp h with ⟨t, h1, h2, h3, h4⟩ | ⟨h1, h2⟩
    · refine ⟨t, h2, fun s hs => ?_, ?_⟩
      · rw [lt_app, if_pos (by omega)]
        exact h3 s hs
      · rw [lt_app, if_pos h1]
        exact h4
    · obtain ⟨t, k1, k2, k3⟩ := hb.2 a.length ha0 h1
      refine ⟨a.length + t, k1, fun s hs => ?_, ?_⟩
      · rw [lt_app]
        split
        · rename_i c
          exact h2 s c
        · rename_i c
          have := k2 (s - a.length) (by omega)
          rw [this]
          congr 1
          omega
      · rw [lt_app, if_neg (by omega), show a.length + t - a.length = t by omega]
        exact k3
  refine ⟨fun z => ?_, fun i hi hi2 => ?_⟩
  · have := congrArg List.length z
    rw [hl, List.length_nil] at this
    omega
  rw [hl] at hi2 ⊢
  by_cases c : i < a.length
  · obtain ⟨t, k1, k2, k3⟩ := ha.2 i hi c
    refine ⟨t, by omega, fun s hs => ?_, ?_⟩
    · rw [lt_app, lt_app, if_pos (by omega), if_pos (by omega)]
      exact k2 s hs
    · rw [lt_app, lt_app, if_pos (by omega), if_pos (by omega)]
      exact k3
  · obtain ⟨t, k1, k2, k3⟩ := base
    have hr : ∀ s, lt_ (a ++ b) (i + s) = lt_ b (i - a.length + s) := fun s => by
      rw [lt_app, if_neg (by omega)]
      congr 1
      omega
    by_cases c2 : i = a.length
    · subst c2
      refine ⟨t, by omega, fun s hs => ?_, ?_⟩
      · rw [hr, k2 s hs, Nat.sub_self, Nat.zero_add]
      · rw [hr, Nat.sub_self, Nat.zero_add]
        exact k3
    · obtain ⟨t', m1, m2, m3⟩ := hb.2 (i - a.length) (by omega) (by omega)
      rcases Nat.lt_trichotomy t t' with d | d | d
      · refine ⟨t, by omega, fun s hs => ?_, ?_⟩
        · rw [hr, k2 s hs, m2 s (by omega)]
        · rw [hr, ← m2 t d]
          exact k3
      · subst d
        refine ⟨t, by omega, fun s hs => ?_, ?_⟩
        · rw [hr, k2 s hs, m2 s hs]
        · rw [hr]
          exact Nat.lt_trans k3 m3
      · refine ⟨t', by omega, fun s hs => ?_, ?_⟩
        · rw [hr, k2 s (by omega), m2 s hs]
        · rw [hr, k2 t' d]
          exact m3
theorem early_app {a b : List Nat} (ha : Lynd a) (hb : Lynd b) (h : ¬ b < a) : Early (a ++ b) ↔ a < b := by
  constructor
  · intro he
    refine Classical.byContradiction fun c => ?_
    have e : a = b := List.le_antisymm (List.not_lt.mp h) (List.not_lt.mp c)
    subst e
    have ly := early_lynd (by have := ha.pos; rw [List.length_append]; omega) he
    have := ly.rot_lt (i := a.length) ha.pos (by have := ha.pos; rw [List.length_append]; omega)
    rw [List.drop_left, List.take_left] at this
    exact List.lt_irrefl _ this
  · intro h
    exact (lynd_app ha hb h).early
/-- the four rows of signs of the law -/
def Four (S : List Nat) (N : Nat) : Prop := (S = [97, 98] ∧ N ≤ 6) ∨ (S = [97, 98, 99] ∧ N ≤ 5) ∨ (S = [107, 122] ∧ N ≤ 6) ∨ (S = [109, 110, 111] ∧ N ≤ 5)
theorem chk4a : ((List.range 6).all fun b => chkS [97, 98] (b + 1)) = true := by decide +kernel
theorem chk4b : ((List.range 5).all fun b => chkS [97, 98, 99] (b + 1)) = true := by decide +kernel
theorem chk4c : ((List.range 6).all fun b => chkS [107, 122] (b + 1)) = true := by decide +kernel
theorem chk4d : ((List.range 5).all fun b => chkS [109, 110, 111] (b + 1)) = true := by decide +kernel
theorem four_counts {S : List Nat} {N n : Nat} (h : Four S N) (h1 : 1 ≤ n) (h2 : n ≤ N) :
    ((wordsOf S n).filter fun w => decide (Early w)).length = eN S.length n ∧ dcount ((wordsOf S n).map minT) = rN S.length n := by
  have hc : chkS S n = true := by
    rcases h with ⟨rfl, h⟩ | ⟨rfl, h⟩ | ⟨rfl, h⟩ | ⟨rfl, h⟩
    · have := List.all_eq_true.mp chk4a (n - 1) (List.mem_range.mpr (by omega))
      rwa [show n - 1 + 1 = n by omega] at this
    · have := List.all_eq_true.mp chk4b (n - 1) (List.mem_range.mpr (by omega))
      rwa [show n - 1 + 1 = n by omega] at this
    · have := List.all_eq_true.mp chk4c (n - 1) (List.mem_range.mpr (by omega))
      rwa [show n - 1 + 1 = n by omega] at this
    · have := List.all_eq_true.mp chk4d (n - 1) (List.mem_range.mpr (by omega))
      rwa [show n - 1 + 1 = n by omega] at this
  unfold chkS at hc
  rw [Bool.and_eq_true] at hc
  exact ⟨eq_of_beq hc.1, eq_of_beq hc.2⟩
end RW

/-! P20: the class Rings: __init__, add, ring_of, forms, many. -/
namespace RW
open PySem PySem.Spec PyProof.Rows L2
open Evl (Ex ex_l ex_t ex_rd fresh_back)
local macro_rules | `(tactic| walk_at "x") => `(tactic| first
  | ((with_reducible apply x_var); exact rfl)
  | with_reducible refine x_c ?_
  | with_reducible refine x_op ?_
  | with_reducible refine x_un ?_
  | with_reducible refine x_neg ?_
  | with_reducible refine x_addI ?_
  | with_reducible refine x_subI ?_
  | with_reducible refine x_ltI ?_
  | with_reducible refine x_ltS ?_
  | with_reducible refine x_leI ?_
  | with_reducible refine x_leS ?_
  | with_reducible refine x_gtI ?_
  | with_reducible refine x_gtS ?_
  | with_reducible refine x_geI ?_
  | with_reducible refine x_eqI ?_
  | with_reducible refine x_eqS ?_
  | with_reducible refine x_eqB ?_
  | with_reducible refine x_neI ?_
  | with_reducible refine x_neS ?_
  | with_reducible refine x_isN ?_
  | with_reducible refine x_isB ?_
  | with_reducible refine x_isNotN ?_
  | with_reducible refine x_isNotB ?_
  | with_reducible refine x_inS ?_
  | with_reducible refine x_sl ?_
  | with_reducible refine x_part ?_
  | with_reducible refine x_nopart ?_
  | with_reducible refine x_rev ?_
  | with_reducible refine x_nil ?_
  | with_reducible refine x_cons ?_
  | with_reducible refine x_lst0 ?_
  | with_reducible refine x_tup0 ?_
  | with_reducible refine x_call0 ?_
  | with_reducible refine x_callS ?_
  | with_reducible refine x_cb ?_
  | with_reducible refine x_m1 ?_
  | with_reducible refine x_m1s ?_
  | with_reducible refine x_bm ?_
  | with_reducible refine x_bm0 ?_
  | with_reducible refine x_tyS ?_
  | with_reducible refine x_max2 ?_
  | with_reducible refine x_min2 ?_
  | with_reducible refine x_seq ?_
  | with_reducible refine x_asg ?_
  | with_reducible refine x_asgG ?_
  | with_reducible refine x_ret ?_
  | with_reducible refine x_retN ?_
  | with_reducible refine x_if ?_
  | with_reducible refine x_next ?_
  | with_reducible refine x_drop ?_
  | with_reducible refine x_break ?_
  | with_reducible refine x_cont ?_
  | with_reducible refine x_par ?_
  | with_reducible refine x_par2 ?_
  | ((with_reducible apply x_aug); exact rfl)
  | with_reducible refine x_ip ?_
  | with_reducible refine x_test ?_
  | with_reducible refine x_tB ?_
  | with_reducible refine x_bl ?_
  | with_reducible refine x_and ?_
  | with_reducible refine x_or ?_
  | with_reducible refine x_not ?_
  | with_reducible refine x_andV ?_
  | with_reducible refine x_orV ?_
  | with_reducible refine x_notV ?_
  | with_reducible refine x_ifV ?_
  | with_reducible refine x_chain ?_
  | with_reducible refine x_intA ?_
  | with_reducible refine x_strA ?_
  | with_reducible refine x_yes ?_
  | with_reducible refine iteT ?_
  | with_reducible refine iteF ?_
  | with_reducible refine x_forRng1 ?_
  | with_reducible refine x_forRng2 ?_
  | with_reducible refine x_forLst ?_
  | with_reducible refine x_forU ?_
  | with_reducible refine x_lcRng1 ?_
  | with_reducible refine x_lcRng2 ?_
  | with_reducible refine x_lcLst ?_
  | with_reducible refine x_lcU ?_
  | with_reducible refine x_uS ?_
  | with_reducible refine x_gcons ?_
  | with_reducible refine x_gnil ?_
  -- with side conditions
  | ((with_reducible refine x_addS ?hs ?_); (case hs => walk_at "sz"))
  | ((with_reducible refine x_divI ?hs ?ht ?_); (case hs => walk_at "sz"); (case ht => walk_at "sz"))
  | ((with_reducible refine x_modI ?hs ?_); (case hs => walk_at "sz"))
  | ((with_reducible refine x_mulI ?hs ?_); (case hs => walk_at "sz"))
  | ((with_reducible refine x_lenS ?hs ?_); (case hs => walk_at "sz"))
  | ((with_reducible refine x_slSlo ?hs ?_); (case hs => walk_at "sz"))
  | ((with_reducible refine x_slShi ?hs ?_); (case hs => walk_at "sz"))
  | ((with_reducible refine x_slSlohi ?hs ?_); (case hs => walk_at "sz"))
  | ((with_reducible refine x_slShiNeg ?hs ?_); (case hs => walk_at "sz"))
  | ((with_reducible refine x_slSloI ?ht ?hs ?_); (case ht => walk_at "sz"); (case hs => walk_at "sz"))
  | ((with_reducible refine x_slShiI ?ht ?hs ?_); (case ht => walk_at "sz"); (case hs => walk_at "sz"))
  | ((with_reducible refine x_rng1 ?hs ?ht ?_); (case hs => walk_at "sz"); (case ht => walk_at "sz"))
  | ((with_reducible refine x_rng2 ?hs ?_); (case hs => walk_at "sz"))
  | ((with_reducible refine x_newL ?hs ?_); (case hs => walk_at "sz"); intro px Hx npx ex hpx)
  | ((with_reducible refine x_newT ?hs ?_); (case hs => walk_at "sz"); intro px Hx npx ex hpx)
  | ((with_reducible apply x_lenL); (walk_at "hp"))
  | ((with_reducible apply x_refL); (walk_at "hp"))
  | ((with_reducible apply x_uL); (walk_at "hp"))
  | ((with_reducible apply x_tyL); (walk_at "hp"))
  )
local macro_rules | `(tactic| walk_at "xs") => `(tactic| repeat (walk_at "x"))
/- sizes, bounds -/
local macro_rules | `(tactic| walk_at "sz") => `(tactic| first
  | with_reducible assumption
  | (rw [sizeLine_eq]; first | omega | (simp only [List.length_cons, List.length_nil, List.length_append, List.length_map, List.length_reverse, List.length_range, List.length_drop, List.length_take, List.length_dropLast]; omega))
  | omega
  | (unfold CMul; omega)
  | (simp only [List.length_cons, List.length_nil, List.length_append, List.length_map, List.length_reverse, List.length_range, List.length_drop, List.length_take, List.length_dropLast]; omega))
/- what stands in the heap -/
local macro_rules | `(tactic| walk_at "hp") => `(tactic| first
  | assumption
  | ((with_reducible apply SqL.of); walk_at "hp")
  | ((with_reducible apply SqT.of); walk_at "hp")
  | ((with_reducible apply Ex.at_); assumption; walk_at "hp")
  | ((with_reducible apply ex_l); assumption; walk_at "hp")
  | ((with_reducible apply ex_t); assumption; walk_at "hp"))
local macro_rules | `(tactic| walk_at "ex") => `(tactic| first
  | assumption
  | exact Ex.rfl'
  | (refine Ex.trs ?_ (by assumption); walk_at "ex"))
/- an item at a place within: what is left speaks of the item -/
local macro_rules | `(tactic| walk_at "ix") => `(tactic| ((with_reducible apply x_ixLm); (walk_at "hp"); (walk_at "sz"); (walk_at "sz")))
local macro_rules | `(tactic| walk_at "is") => `(tactic| ((with_reducible apply x_ixSm); (walk_at "sz"); (walk_at "sz"); (walk_at "sz")))

local macro_rules | `(tactic| walk_at "y") => `(tactic| repeat (walk_at "x"))
/-- what the top has of the class -/
structure RC (g : G) : Prop where
  cl : Cls g.K g.cRings
  nN : NoAttr g.K g.cRings "numbers"
  nW : NoAttr g.K g.cRings "words"
  nX : NoAttr g.K g.cRings "next_number"
abbrev sNum : Str := "numbers"
abbrev sWor : Str := "words"
abbrev sNex : Str := "next_number"
theorem ne_nw : ¬ (sNum = sWor) := by decide +kernel
theorem ne_nx : ¬ (sNum = sNex) := by decide +kernel
theorem ne_wx : ¬ (sWor = sNex) := by decide +kernel
theorem ne_wn : ¬ (sWor = sNum) := by decide +kernel
theorem ne_xn : ¬ (sNex = sNum) := by decide +kernel
theorem ne_xw : ¬ (sNex = sWor) := by decide +kernel
/-- the fields -/
def flds (dn dw : Addr) (nx : Int) : List (Str × V) := [(sNum, .ref dn), (sWor, .ref dw), (sNex, .int nx)]
theorem flds_put (dn dw : Addr) (nx y : Int) : putF sNex (.int y) (flds dn dw nx) = flds dn dw y := by
  unfold flds putF
  rw [if_neg ne_nx]
  unfold putF
  rw [if_neg ne_wx]
  unfold putF
  rw [if_pos rfl]
theorem flds_init (dn dw : Addr) (nx : Int) : putF sNex (.int nx) (putF sWor (.ref dw) (putF sNum (.ref dn) [])) = flds dn dw nx := by
  show putF sNex (.int nx) (putF sWor (.ref dw) [(sNum, .ref dn)]) = _
  have e : putF sWor (.ref dw) [(sNum, .ref dn)] = [(sNum, V.ref dn), (sWor, V.ref dw)] := by
    unfold putF
    rw [if_neg ne_nw]
    rfl
  rw [e]
  unfold putF
  rw [if_neg ne_nx]
  unfold putF
  rw [if_neg ne_wx]
  rfl
theorem fl_num (dn dw : Addr) (nx : Int) : (flds dn dw nx).lookup sNum = some (.ref dn) := by
  unfold flds
  rw [List.lookup_cons_self]
theorem lk_ne {a b : Str} {x : V} {r : List (Str × V)} (h : ¬ a = b) : ((b, x) :: r).lookup a = r.lookup a := by
  rw [List.lookup_cons]
  have : (a == b) = false := beq_eq_false_iff_ne.mpr h
  rw [this]
theorem fl_wor (dn dw : Addr) (nx : Int) : (flds dn dw nx).lookup sWor = some (.ref dw) := by
  unfold flds
  rw [lk_ne ne_wn, List.lookup_cons_self]
theorem fl_nex (dn dw : Addr) (nx : Int) : (flds dn dw nx).lookup sNex = some (.int nx) := by
  unfold flds
  rw [lk_ne ne_xn, lk_ne ne_xw, List.lookup_cons_self]
theorem fl_no {m : Str} (h1 : ¬ m = sNum) (h2 : ¬ m = sWor) (h3 : ¬ m = sNex) (dn dw : Addr) (nx : Int) : (flds dn dw nx).lookup m = none := by
  unfold flds
  rw [lk_ne h1, lk_ne h2, lk_ne h3]
  rfl
/-! ### the account -/
structure Ring where
  form : List Nat
  num : Nat
  at_ : Addr
  ws : List (List Nat)
def nmK (rs : List Ring) : List (Key × V) := rs.map fun r => (.inr (ST r.form), .int (r.num : Int))
def wdK (rs : List Ring) : List (Key × V) := rs.map fun r => (.inl (r.num : Int), .ref r.at_)
theorem nmK_get {f : List Nat} : ∀ {rs : List Ring} {r : Ring}, rs.Pairwise (fun a b => a.form ≠ b.form) → r ∈ rs → r.form = f → valV (nmK rs) (.inr (ST f)) = some (.int (r.num : Int))
  | x :: rs, r, hp, hr, hf => by
    rcases List.mem_cons.mp hr with rfl | hr
    · subst hf
      exact valV_pos rfl
    · have := (List.pairwise_cons.mp hp).1 r hr
      refine (valV_neg fun z => this ?_).trans (nmK_get (List.pairwise_cons.mp hp).2 hr hf)
      rw [hf]
      exact ST_inj.mp (Sum.inr.inj z)
theorem nmK_none {f : List Nat} : ∀ {rs : List Ring}, (∀ r ∈ rs, r.form ≠ f) → valV (nmK rs) (.inr (ST f)) = none
  | [], _ => rfl
  | x :: rs, h => (valV_neg fun z => h x List.mem_cons_self (ST_inj.mp (Sum.inr.inj z))).trans (nmK_none fun r hr => h r (List.mem_cons_of_mem _ hr))
theorem wdK_get {n : Nat} : ∀ {rs : List Ring} {r : Ring}, rs.Pairwise (fun a b => a.num < b.num) → r ∈ rs → r.num = n → valV (wdK rs) (.inl (n : Int)) = some (.ref r.at_)
  | x :: rs, r, hp, hr, hf => by
    rcases List.mem_cons.mp hr with rfl | hr
    · subst hf
      exact valV_pos rfl
    · have := (List.pairwise_cons.mp hp).1 r hr
      refine (valV_neg fun z => ?_).trans (wdK_get (List.pairwise_cons.mp hp).2 hr hf)
      have z := Sum.inl.inj z
      have : x.num = n := by
        have z' : (x.num : Int) = (n : Int) := z
        omega
      omega
theorem wdK_none {n : Int} : ∀ {rs : List Ring}, (∀ r ∈ rs, (r.num : Int) ≠ n) → valV (wdK rs) (.inl n) = none
  | [], _ => rfl
  | x :: rs, h => (valV_neg fun z => h x List.mem_cons_self (Sum.inl.inj z)).trans (wdK_none fun r hr => h r (List.mem_cons_of_mem _ hr))
/-- what stands in the heap of a book -/
structure BookAt (g : G) (H : Hp) (b dn dw : Addr) (rs : List Ring) (nx : Nat) : Prop where
  ob : ∃ dx, H b = some (.ins g.cRings dx (flds dn dw (nx : Int)))
  hn : H dn = some (.dK (nmK rs))
  hw : H dw = some (.dK (wdK rs))
  hl : ∀ r ∈ rs, H r.at_ = some (.lst (tx r.ws))
  nd : dn ≠ dw
  na : rs.Pairwise fun a b => a.at_ ≠ b.at_
/-- what the account says -/
structure BookOk (rs : List Ring) (nx : Nat) : Prop where
  up : rs.Pairwise fun a b => a.num < b.num
  nf : rs.Pairwise fun a b => a.form ≠ b.form
  lt : ∀ r ∈ rs, r.num < nx
  ne : ∀ r ∈ rs, r.ws ≠ []
  wf : ∀ r ∈ rs, ∀ w ∈ r.ws, Word w ∧ minT w = r.form
/-- what a book stands on -/
def feet (b dn dw : Addr) (rs : List Ring) : List Addr := b :: dn :: dw :: rs.map (·.at_)
/-- all else stands -/
def Fr (fp : List Addr) (H H' : Hp) : Prop := ∀ x o, H x = some o → x ∉ fp → H' x = some o
theorem Fr.of {fp : List Addr} {H H' : Hp} (e : Ex H H') : Fr fp H H' := fun x o h _ => e x o h
theorem Fr.trs {fp : List Addr} {H H1 H2 : Hp} (a : Fr fp H H1) (b : Fr fp H1 H2) : Fr fp H H2 := fun x o h n => b x o (a x o h n) n
theorem Fr.mono {fp fq : List Addr} {H H' : Hp} (a : Fr fp H H') (s : ∀ x ∈ fp, x ∈ fq) : Fr fq H H' := fun x o h n => a x o h fun z => n (s x z)
theorem Fr.put {fp : List Addr} {H : Hp} {p : Addr} {o : HO} (h : p ∈ fp) : Fr fp H (upd H p o) := fun x u e n => by
  rw [upd_ne fun z => n (by rw [z]; exact h)]
  exact e
/-- a new place -/
theorem Fr.new {fp : List Addr} {H : Hp} {p : Addr} {o : HO} (h : H p = none) : Fr fp H (upd H p o) := Fr.of (Evl.Ex.new h)
theorem BookAt.ex {g : G} {H H' : Hp} {b dn dw : Addr} {rs : List Ring} {nx : Nat} (h : BookAt g H b dn dw rs nx) (e : Ex H H') : BookAt g H' b dn dw rs nx :=
  ⟨h.ob.elim fun dx q => ⟨dx, e _ _ q⟩, e _ _ h.hn, e _ _ h.hw, fun r hr => e _ _ (h.hl r hr), h.nd, h.na⟩
theorem BookAt.fr {g : G} {H H' : Hp} {b dn dw : Addr} {rs : List Ring} {nx : Nat} {fp : List Addr} (h : BookAt g H b dn dw rs nx) (f : Fr fp H H') (d : ∀ x ∈ feet b dn dw rs, x ∉ fp) : BookAt g H' b dn dw rs nx :=
  ⟨h.ob.elim fun dx q => ⟨dx, f _ _ q (d _ (by simp [feet]))⟩, f _ _ h.hn (d _ (by simp [feet])), f _ _ h.hw (d _ (by simp [feet])), fun r hr => f _ _ (h.hl r hr) (d _ (by
    unfold feet
    exact List.mem_cons_of_mem _ (List.mem_cons_of_mem _ (List.mem_cons_of_mem _ (List.mem_map_of_mem hr))))), h.nd, h.na⟩
theorem BookAt.has {g : G} {H : Hp} {b dn dw : Addr} {rs : List Ring} {nx : Nat} (h : BookAt g H b dn dw rs nx) : ∀ x ∈ feet b dn dw rs, ∃ o, H x = some o := fun x hx => by
  unfold feet at hx
  simp only [List.mem_cons, List.mem_map] at hx
  rcases hx with rfl | rfl | rfl | ⟨r, hr, rfl⟩
  · exact h.ob.elim fun dx q => ⟨_, q⟩
  · exact ⟨_, h.hn⟩
  · exact ⟨_, h.hw⟩
  · exact ⟨_, h.hl r hr⟩
/-- the word put into the ring of that number -/
def addTo (rs : List Ring) (n : Nat) (w : List Nat) : List Ring := rs.map fun r => ⟨r.form, r.num, r.at_, if r.num = n then r.ws ++ [w] else r.ws⟩
theorem addTo_nm (rs : List Ring) (n : Nat) (w : List Nat) : nmK (addTo rs n w) = nmK rs := by
  unfold nmK addTo
  rw [List.map_map]
  rfl
theorem addTo_wd (rs : List Ring) (n : Nat) (w : List Nat) : wdK (addTo rs n w) = wdK rs := by
  unfold wdK addTo
  rw [List.map_map]
  rfl
theorem addTo_at (rs : List Ring) (n : Nat) (w : List Nat) : (addTo rs n w).map (·.at_) = rs.map (·.at_) := by
  unfold addTo
  rw [List.map_map]
  rfl
theorem tx_app2' (a b : List (List Nat)) : tx a ++ tx b = tx (a ++ b) := by unfold tx; rw [List.map_append]
theorem addTo_new {rs : List Ring} {nx a : Nat} {f w : List Nat} (h : ∀ r ∈ rs, r.num < nx) : addTo (rs ++ [⟨f, nx, a, []⟩]) nx w = rs ++ [⟨f, nx, a, [w]⟩] := by
  unfold addTo
  rw [List.map_append]
  congr 1
  · refine (List.map_congr_left fun r hr => ?_).trans (List.map_id rs)
    have := h r hr
    rw [if_neg (by omega)]
    rfl
  · rw [List.map_singleton, if_pos rfl]
    rfl
theorem ring_one {rs : List Ring} (h : rs.Pairwise fun a b => a.num < b.num) {r s : Ring} (hr : r ∈ rs) (hs : s ∈ rs) (e : r.num = s.num) : r = s := by
  obtain ⟨i, hi, rfl⟩ := List.mem_iff_getElem.mp hr
  obtain ⟨j, hj, rfl⟩ := List.mem_iff_getElem.mp hs
  rcases Nat.lt_trichotomy i j with c | c | c
  · have := List.pairwise_iff_getElem.mp h i j hi hj c
    omega
  · subst c
    rfl
  · have := List.pairwise_iff_getElem.mp h j i hj hi c
    omega
/-- the account goes on -/
theorem BookOk.add {rs : List Ring} {nx : Nat} (ok : BookOk rs nx) {r : Ring} (hr : r ∈ rs) {w : List Nat} (hw : Word w) (hf : r.form = minT w) : BookOk (addTo rs r.num w) nx := by
  have mem : ∀ s ∈ addTo rs r.num w, ∃ s0 ∈ rs, s.form = s0.form ∧ s.num = s0.num ∧ s.ws = if s0.num = r.num then s0.ws ++ [w] else s0.ws := fun s hs => by
    unfold addTo at hs
    obtain ⟨s0, h0, rfl⟩ := List.mem_map.mp hs
    exact ⟨s0, h0, rfl, rfl, rfl⟩
  refine ⟨?_, ?_, fun s hs => ?_, fun s hs => ?_, fun s hs v hv => ?_⟩
  · unfold addTo
    rw [List.pairwise_map]
    exact ok.up
  · unfold addTo
    rw [List.pairwise_map]
    exact ok.nf
  · obtain ⟨s0, h0, _, h2, _⟩ := mem s hs
    rw [h2]
    exact ok.lt s0 h0
  · obtain ⟨s0, h0, _, _, h3⟩ := mem s hs
    rw [h3]
    split
    · simp
    · exact ok.ne s0 h0
  · obtain ⟨s0, h0, h1, h2, h3⟩ := mem s hs
    rw [h3] at hv
    rw [h1]
    split at hv
    · rename_i c
      rcases List.mem_append.mp hv with hv | hv
      · exact ok.wf s0 h0 v hv
      · obtain rfl := List.mem_singleton.mp hv
        have : s0 = r := ring_one ok.up h0 hr c
        subst this
        exact ⟨hw, hf.symm⟩
    · exact ok.wf s0 h0 v hv
theorem BookOk.new {rs : List Ring} {nx a : Nat} (ok : BookOk rs nx) {w : List Nat} (hw : Word w) (hno : ∀ r ∈ rs, r.form ≠ minT w) : BookOk (rs ++ [⟨minT w, nx, a, [w]⟩]) (nx + 1) := by
  refine ⟨List.pairwise_append.mpr ⟨ok.up, List.pairwise_singleton _ _, fun r hr s hs => ?_⟩, List.pairwise_append.mpr ⟨ok.nf, List.pairwise_singleton _ _, fun r hr s hs => ?_⟩, fun s hs => ?_, fun s hs => ?_, fun s hs v hv => ?_⟩
  · obtain rfl := List.mem_singleton.mp hs
    exact ok.lt r hr
  · obtain rfl := List.mem_singleton.mp hs
    exact hno r hr
  · rcases List.mem_append.mp hs with hs | hs
    · have := ok.lt s hs
      omega
    · obtain rfl := List.mem_singleton.mp hs
      exact Nat.lt_succ_self _
  · rcases List.mem_append.mp hs with hs | hs
    · exact ok.ne s hs
    · obtain rfl := List.mem_singleton.mp hs
      simp
  · rcases List.mem_append.mp hs with hs | hs
    · exact ok.wf s hs v hv
    · obtain rfl := List.mem_singleton.mp hs
      obtain rfl := List.mem_singleton.mp hv
      exact ⟨hw, rfl⟩
theorem BookOk.nil : BookOk [] 0 := ⟨List.Pairwise.nil, List.Pairwise.nil, fun r h => by simp at h, fun r h => by simp at h, fun r h => by simp at h⟩
section
variable {g : G} {vs : List V} {H : Hp} {Q : VK} {E : XK} {K : Frag}
/-- a field of a book -/
theorem x_bnum {rc : RC g} {σ : L2.St} {ta : TE} {b dn dw : Addr} {rs : List Ring} {nx : Nat} (hb : BookAt g H b dn dw rs nx) (h : ∀ P : VK, P (.ref b) H → ta σ H P) (q : Q (.ref dn) H) : tFld g.K ta sNum σ H Q :=
  h _ (hb.ob.elim fun dx o => ⟨b, _, dx, _, _, rfl, o, rc.cl, rc.nN, fl_num _ _ _, q⟩)
theorem x_bwor {rc : RC g} {σ : L2.St} {ta : TE} {b dn dw : Addr} {rs : List Ring} {nx : Nat} (hb : BookAt g H b dn dw rs nx) (h : ∀ P : VK, P (.ref b) H → ta σ H P) (q : Q (.ref dw) H) : tFld g.K ta sWor σ H Q :=
  h _ (hb.ob.elim fun dx o => ⟨b, _, dx, _, _, rfl, o, rc.cl, rc.nW, fl_wor _ _ _, q⟩)
theorem x_bnex {rc : RC g} {σ : L2.St} {ta : TE} {b dn dw : Addr} {rs : List Ring} {nx : Nat} (hb : BookAt g H b dn dw rs nx) (h : ∀ P : VK, P (.ref b) H → ta σ H P) (q : Q (.int (nx : Int)) H) : tFld g.K ta sNex σ H Q :=
  h _ (hb.ob.elim fun dx o => ⟨b, _, dx, _, _, rfl, o, rc.cl, rc.nX, fl_nex _ _ _, q⟩)
theorem tv0 {σ : L2.St} {v : V} {i : Nat} (h : σ[i]? = some (some v)) : ∀ P : VK, P v H → tVar i σ H P := fun P p => x_var h p
/-! ### __init__ -/
def sp_Rings___init__ (g : G) : Sp := fun vs H Q _ => RC g ∧ ∃ b dx, vs = [.ref b] ∧ H b = some (.ins g.cRings dx []) ∧ ∀ dn dw H', H dn = none → H dw = none → BookAt g H' b dn dw [] 0 → Fr [b] H H' → Q .non H'
/-- Rings.__init__: slots self -/
def t_Rings___init__ (g : G) : TS :=
  tSeq (sFld g.K (tVar 0) tDNewK "numbers")
    (tSeq (sFld g.K (tVar 0) tDNewK "words")
    (sFld g.K (tVar 0) (tC (.int 0)) "next_number"))
theorem p_Rings___init__ (h : sp_Rings___init__ g vs H Q E) : t_Rings___init__ g (D0 Q) (st0 1 vs) H := by
  obtain ⟨rc, b, dx, rfl, hb, q⟩ := h
  show t_Rings___init__ g (D0 Q) [some (.ref b)] H
  unfold t_Rings___init__
  refine x_seq (x_sfld ?_)
  intro dn hdn
  have nb1 : b ≠ dn := ne_of_none hb hdn
  refine x_var rfl ⟨b, _, dx, [], rfl, by rw [upd_ne nb1]; exact hb, rc.cl, rc.nN, by decide, ?_⟩
  refine x_seq (x_sfld ?_)
  intro dw hdw
  have hdw1 : dw ≠ b := fun z => by rw [z, upd_same] at hdw; cases hdw
  have hdw2 : dw ≠ dn := fun z => by rw [z, upd_ne nb1.symm, upd_same] at hdw; cases hdw
  have hdw3 : H dw = none := by rwa [upd_ne hdw1, upd_ne hdw2] at hdw
  refine x_var rfl ⟨b, _, dx, _, rfl, by rw [upd_ne hdw1.symm, upd_same], rc.cl, rc.nW, by show 1 < 1000; decide, ?_⟩
  refine x_sfld (x_c (x_var rfl ⟨b, _, dx, _, rfl, upd_same, rc.cl, rc.nX, ?_, ?_⟩))
  · have e : putF sWor (.ref dw) (putF sNum (.ref dn) []) = [(sNum, V.ref dn), (sWor, V.ref dw)] := by
      show putF sWor (.ref dw) [(sNum, .ref dn)] = _
      unfold putF
      rw [if_neg ne_nw]
      rfl
    rw [e]
    show 2 < 1000
    decide
  refine q dn dw _ hdn hdw3 ⟨⟨dx, ?_⟩, ?_, ?_, fun r hr => by simp at hr, hdw2.symm, List.Pairwise.nil⟩ fun x o hx hn => ?_
  · rw [upd_same]
    exact congrArg (fun z => some (HO.ins g.cRings dx z)) (flds_init dn dw 0)
  · rw [upd_ne nb1.symm, upd_ne nb1.symm, upd_ne hdw2.symm, upd_ne nb1.symm, upd_same]
    rfl
  · rw [upd_ne hdw1, upd_ne hdw1, upd_same]
    rfl
  · have hxb : x ≠ b := fun z => hn (by rw [z]; exact List.mem_singleton.mpr rfl)
    rw [upd_ne hxb, upd_ne hxb, upd_ne (ne_of_none hx hdw3), upd_ne hxb, upd_ne (ne_of_none hx hdn)]
    exact hx
/-! ### look-ups -/
structure BookOk' (rs : List Ring) : Prop where
  up : rs.Pairwise fun a b => a.num < b.num
  nf : rs.Pairwise fun a b => a.form ≠ b.form
theorem BookOk.to {rs : List Ring} {nx : Nat} (h : BookOk rs nx) : BookOk' rs := ⟨h.up, h.nf⟩
theorem g_num' {b dn dw : Addr} {rs : List Ring} {nx : Nat} (hb : BookAt g H b dn dw rs nx) (ok : BookOk' rs) {r : Ring} (hr : r ∈ rs) {f : List Nat} (hf : r.form = f) : DGet H dn (.str (ST f)) (some (.int (r.num : Int))) := by
  have := DGet.k (k := .inr (ST f)) hb.hn
  rwa [nmK_get ok.nf hr hf] at this
theorem g_wor' {b dn dw : Addr} {rs : List Ring} {nx : Nat} (hb : BookAt g H b dn dw rs nx) (ok : BookOk' rs) {r : Ring} (hr : r ∈ rs) : DGet H dw (.int (r.num : Int)) (some (.ref r.at_)) := by
  have := DGet.k (k := .inl (r.num : Int)) hb.hw
  rwa [wdK_get ok.up hr rfl] at this
theorem xd_get {σ : L2.St} {td ty : TE} (q : td σ H fun x H1 => ty σ H1 fun y H2 => ∃ a v, x = .ref a ∧ DGet H2 a y (some v) ∧ Q v H2) : tDGet td ty σ H Q := q
theorem xd_put {σ : L2.St} {td ty tv : TE} {nx bk ct : L2.St → Hp → Prop} {rt : VK} (q : tv σ H fun v H1 => td σ H1 fun x H2 => ty σ H2 fun y H3 => ∃ a H4, x = .ref a ∧ DPut H3 a y v H4 ∧ nx σ H4) : sDPut td ty tv ⟨nx, rt, bk, ct⟩ σ H := q
theorem g_num {b dn dw : Addr} {rs : List Ring} {nx : Nat} (hb : BookAt g H b dn dw rs nx) (ok : BookOk rs nx) {r : Ring} (hr : r ∈ rs) {f : List Nat} (hf : r.form = f) : DGet H dn (.str (ST f)) (some (.int (r.num : Int))) := by
  have := DGet.k (k := .inr (ST f)) hb.hn
  rwa [nmK_get ok.nf hr hf] at this
theorem g_num0 {b dn dw : Addr} {rs : List Ring} {nx : Nat} (hb : BookAt g H b dn dw rs nx) {f : List Nat} (hf : ∀ r ∈ rs, r.form ≠ f) : DGet H dn (.str (ST f)) none := by
  have := DGet.k (k := .inr (ST f)) hb.hn
  rwa [nmK_none hf] at this
theorem g_wor {b dn dw : Addr} {rs : List Ring} {nx : Nat} (hb : BookAt g H b dn dw rs nx) (ok : BookOk rs nx) {r : Ring} (hr : r ∈ rs) : DGet H dw (.int (r.num : Int)) (some (.ref r.at_)) := by
  have := DGet.k (k := .inl (r.num : Int)) hb.hw
  rwa [wdK_get ok.up hr rfl] at this
theorem g_wor0 {b dn dw : Addr} {rs : List Ring} {nx : Nat} (hb : BookAt g H b dn dw rs nx) {n : Int} (hf : ∀ r ∈ rs, (r.num : Int) ≠ n) : DGet H dw (.int n) none := by
  have := DGet.k (k := .inl n) hb.hw
  rwa [wdK_none hf] at this
/-! ### add -/
def sp_Rings_add (g : G) : Sp := fun vs H Q E => RC g ∧ ((∃ b dn dw rs nx w, vs = [.ref b, .str (ST w)] ∧ Word w ∧ BookAt g H b dn dw rs nx ∧ BookOk rs nx ∧ rs.length ≤ 1000 ∧ (∀ r ∈ rs, r.ws.length ≤ 1000) ∧
    ((∃ r ∈ rs, r.form = minT w ∧ w ∈ r.ws ∧ ∀ H', Ex H H' → E (.ref g.cTwice) none H') ∨
     (∃ r ∈ rs, r.form = minT w ∧ w ∉ r.ws ∧ ∀ H', BookAt g H' b dn dw (addTo rs r.num w) nx → Fr (feet b dn dw rs) H H' → Q (.int (r.num : Int)) H') ∨
     ((∀ r ∈ rs, r.form ≠ minT w) ∧ ∀ a H', H a = none → BookAt g H' b dn dw (rs ++ [⟨minT w, nx, a, [w]⟩]) (nx + 1) → Fr (feet b dn dw rs) H H' → Q (.int (nx : Int)) H'))) ∨
  (∃ b v, vs = [.ref b, v] ∧ IsW g.K H v false ∧ ∀ H', Ex H H' → E (.ref g.cNoWord) none H'))
/-- Rings.add: slots self, word, form, number -/
def t_Rings_add (g : G) (E : XK) : TS :=
  tSeq (tAsg (tCall (sp_least_form g) [] E (tCons (tVar 1) tNil)) (gName 2))
    (tSeq (tIfS (tAnd (tB (tDIn (tVar 2) (tFld g.K (tVar 0) "numbers"))) (tTest (tOp (uIn g.K) (tVar 1) (tDGet (tFld g.K (tVar 0) "words") (tDGet (tFld g.K (tVar 0) "numbers") (tVar 2)))))) (tRaise g.cTwice E) tNext)
    (tSeq (tIfS (tB (tDNotIn (tVar 2) (tFld g.K (tVar 0) "numbers"))) (tSeq (sDPut (tFld g.K (tVar 0) "numbers") (tVar 2) (tFld g.K (tVar 0) "next_number"))
    (tSeq (sDPut (tFld g.K (tVar 0) "words") (tFld g.K (tVar 0) "next_number") (tLst tNil))
    (sFldAug g.K (tVar 0) (tC (.int 1)) rAdd "next_number"))) tNext)
    (tSeq (tAsg (tDGet (tFld g.K (tVar 0) "numbers") (tVar 2)) (gName 3))
    (tSeq (tDrop (tBM g.K "list" rAppend (tDGet (tFld g.K (tVar 0) "words") (tVar 3)) (tCons (tVar 1) tNil)))
    (tRet (tVar 3))))))
theorem at_ne {b dn dw : Addr} {rs : List Ring} {nx : Nat} (hb : BookAt g H b dn dw rs nx) {r : Ring} (hr : r ∈ rs) : r.at_ ≠ b ∧ r.at_ ≠ dn ∧ r.at_ ≠ dw := by
  have h := hb.hl r hr
  refine ⟨fun z => ?_, fun z => ?_, fun z => ?_⟩
  · obtain ⟨dx, o⟩ := hb.ob
    rw [z, o] at h
    cases h
  · rw [z, hb.hn] at h
    cases h
  · rw [z, hb.hw] at h
    cases h
theorem b_ne {b dn dw : Addr} {rs : List Ring} {nx : Nat} (hb : BookAt g H b dn dw rs nx) : b ≠ dn ∧ b ≠ dw := by
  obtain ⟨dx, o⟩ := hb.ob
  refine ⟨fun z => ?_, fun z => ?_⟩
  · rw [z, hb.hn] at o
    cases o
  · rw [z, hb.hw] at o
    cases o
theorem at_one {rs : List Ring} (h : rs.Pairwise fun a b => a.at_ ≠ b.at_) {r s : Ring} (hr : r ∈ rs) (hs : s ∈ rs) (e : r.at_ = s.at_) : r = s := by
  obtain ⟨i, hi, rfl⟩ := List.mem_iff_getElem.mp hr
  obtain ⟨j, hj, rfl⟩ := List.mem_iff_getElem.mp hs
  rcases Nat.lt_trichotomy i j with c | c | c
  · exact absurd e (List.pairwise_iff_getElem.mp h i j hi hj c)
  · subst c
    rfl
  · exact absurd e.symm (List.pairwise_iff_getElem.mp h j i hj hi c)
/-- the list of a ring written anew -/
theorem BookAt.put {b dn dw : Addr} {rs : List Ring} {nx : Nat} (hb : BookAt g H b dn dw rs nx) (up : rs.Pairwise fun a b => a.num < b.num) {r : Ring} (hr : r ∈ rs) (w : List Nat) : BookAt g (upd H r.at_ (.lst (tx (r.ws ++ [w])))) b dn dw (addTo rs r.num w) nx := by
  obtain ⟨a1, a2, a3⟩ := at_ne hb hr
  refine ⟨hb.ob.elim fun dx o => ⟨dx, by rw [upd_ne a1.symm]; exact o⟩, by rw [upd_ne a2.symm, addTo_nm]; exact hb.hn, by rw [upd_ne a3.symm, addTo_wd]; exact hb.hw, fun s hs => ?_, hb.nd, ?_⟩
  · unfold addTo at hs
    obtain ⟨s0, hs0, rfl⟩ := List.mem_map.mp hs
    show upd H r.at_ _ s0.at_ = some (.lst (tx (if s0.num = r.num then s0.ws ++ [w] else s0.ws)))
    by_cases e : s0.num = r.num
    · obtain rfl := ring_one up hs0 hr e
      rw [upd_same, if_pos rfl]
    · have : s0.at_ ≠ r.at_ := fun z => e (by rw [at_one hb.na hs0 hr z])
      rw [upd_ne this, if_neg e]
      exact hb.hl s0 hs0
  · unfold addTo
    rw [List.pairwise_map]
    exact hb.na
theorem nmK_len (rs : List Ring) : (nmK rs).length = rs.length := List.length_map ..
theorem wdK_len (rs : List Ring) : (wdK rs).length = rs.length := List.length_map ..
theorem p_Rings_add (h : sp_Rings_add g vs H Q E) : t_Rings_add g E (D0 Q) (st0 4 vs) H := by
  obtain ⟨rc, h⟩ := h
  rcases h with ⟨b, dn, dw, rs, nx, w, rfl, hw, hb, ok, hl1, hl2, hor⟩ | ⟨b, v, rfl, hv, q⟩
  · show t_Rings_add g E (D0 Q) [some (.ref b), some (.str (ST w)), none, none] H
    unfold t_Rings_add
    walk_at "y"
    refine c_least_form hw fun p H1 L e1 => ?_
    rw [least_minT L]
    have hb1 := hb.ex e1
    walk_at "y"
    rcases hor with ⟨r, hr, hf, hin, q⟩ | ⟨r, hr, hf, hin, q⟩ | ⟨hno, q⟩
    · refine x_din (x_var rfl (x_bnum (rc := rc) hb1 (tv0 rfl) ⟨dn, _, rfl, g_num hb1 ok hr hf, ?_⟩))
      walk_at "y"
      refine x_it rfl ?_
      walk_at "y"
      refine xd_get (x_bwor (rc := rc) hb1 (tv0 rfl) (xd_get (x_bnum (rc := rc) hb1 (tv0 rfl) (x_var rfl ⟨dn, _, rfl, g_num hb1 ok hr hf, dw, _, rfl, g_wor hb1 ok hr, ?_⟩))))
      refine x_inTx (SqL.of (hb1.hl r hr)) ?_
      rw [decide_eq_true hin]
      walk_at "y"
      exact x_raise (q _ e1)
    · refine x_din (x_var rfl (x_bnum (rc := rc) hb1 (tv0 rfl) ⟨dn, _, rfl, g_num hb1 ok hr hf, ?_⟩))
      walk_at "y"
      refine x_it rfl ?_
      walk_at "y"
      refine xd_get (x_bwor (rc := rc) hb1 (tv0 rfl) (xd_get (x_bnum (rc := rc) hb1 (tv0 rfl) (x_var rfl ⟨dn, _, rfl, g_num hb1 ok hr hf, dw, _, rfl, g_wor hb1 ok hr, ?_⟩))))
      refine x_inTx (SqL.of (hb1.hl r hr)) ?_
      rw [decide_eq_false hin]
      walk_at "y"
      refine x_dnotin (x_var rfl (x_bnum (rc := rc) hb1 (tv0 rfl) ⟨dn, _, rfl, g_num hb1 ok hr hf, ?_⟩))
      walk_at "y"
      refine x_if0 rfl ?_
      walk_at "y"
      refine xd_get (x_bnum (rc := rc) hb1 (tv0 rfl) (x_var rfl ⟨dn, _, rfl, g_num hb1 ok hr hf, ?_⟩))
      walk_at "y"
      refine xd_get (x_bwor (rc := rc) hb1 (tv0 rfl) (x_var rfl ⟨dw, _, rfl, g_wor hb1 ok hr, ?_⟩))
      have hl := hb1.hl r hr
      have := hl2 r hr
      walk_at "y"
      refine x_append hl (by rw [tx_len, sizeLine_eq]; omega) ?_
      walk_at "y"
      rw [show tx r.ws ++ [V.str (ST w)] = tx (r.ws ++ [w]) by rw [← tx_app2']; rfl]
      exact q _ (hb1.put ok.up hr w) ((Fr.of e1).trs (Fr.put (by
        unfold feet
        exact List.mem_cons_of_mem _ (List.mem_cons_of_mem _ (List.mem_cons_of_mem _ (List.mem_map_of_mem hr))))))
    · refine x_din (x_var rfl (x_bnum (rc := rc) hb1 (tv0 rfl) ⟨dn, _, rfl, g_num0 hb1 hno, ?_⟩))
      walk_at "y"
      refine x_if0 rfl ?_
      walk_at "y"
      refine x_dnotin (x_var rfl (x_bnum (rc := rc) hb1 (tv0 rfl) ⟨dn, _, rfl, g_num0 hb1 hno, ?_⟩))
      walk_at "y"
      refine x_it rfl ?_
      walk_at "y"
      obtain ⟨n1, n2⟩ := b_ne hb1
      obtain ⟨dx, hob⟩ := hb1.ob
      -- numbers[form] = next_number
      refine xd_put (x_bnex (rc := rc) hb1 (tv0 rfl) (x_bnum (rc := rc) hb1 (tv0 rfl) (x_var rfl ⟨dn, _, rfl, DPut.k (k := .inr (ST (minT w))) hb1.hn (by rw [nmK_len, sizeLine_eq]; omega), ?_⟩)))
      rw [putK_new _ (nmK_none hno)]
      have hob2 : ∀ o, upd H1 dn o b = some (.ins g.cRings dx (flds dn dw (nx : Int))) := fun o => by rw [upd_ne n1]; exact hob
      -- words[next_number] = []
      refine x_seq (xd_put ?_)
      walk_at "y"
      rename_i a H3 na e3 ha
      have hdn3 := e3 _ _ (upd_same (a := dn) (o := HO.dK (nmK rs ++ [(Sum.inr (ST (minT w)), V.int (nx : Int))])) (H := H1))
      have hob3 := e3 _ _ (hob2 (HO.dK (nmK rs ++ [(Sum.inr (ST (minT w)), V.int (nx : Int))])))
      have hdw3 := e3 _ _ (show upd H1 dn (HO.dK (nmK rs ++ [(Sum.inr (ST (minT w)), V.int (nx : Int))])) dw = some (.dK (wdK rs)) by rw [upd_ne hb1.nd.symm]; exact hb1.hw)
      have na1 : H1 a = none := by
        by_cases z : a = dn
        · rw [z, upd_same] at na
          cases na
        · rwa [upd_ne z] at na
      refine x_fld (x_var rfl ⟨b, _, dx, _, _, rfl, hob3, rc.cl, rc.nW, fl_wor _ _ _, ?_⟩)
      refine x_fld (x_var rfl ⟨b, _, dx, _, _, rfl, hob3, rc.cl, rc.nX, fl_nex _ _ _, dw, _, rfl, DPut.k (k := .inl (nx : Int)) hdw3 (by rw [wdK_len, sizeLine_eq]; omega), ?_⟩)
      have hnum : ∀ r ∈ rs, (r.num : Int) ≠ (nx : Int) := fun r hr => by
        have := ok.lt r hr
        omega
      rw [putK_new _ (wdK_none hnum)]
      have nn : ∀ {x : Addr} {o o' : HO}, H3 x = some o → H3 a = some o' → o ≠ o' → x ≠ a := fun h1 h2 h3 z => by
        rw [z, h2] at h1
        exact h3 (Option.some.inj h1).symm
      have ab : b ≠ a := nn hob3 ha (fun z => nomatch z)
      have adn : dn ≠ a := nn hdn3 ha (fun z => nomatch z)
      have adw : dw ≠ a := nn hdw3 ha (fun z => nomatch z)
      have hr3 : ∀ r ∈ rs, H3 r.at_ = some (.lst (tx r.ws)) ∧ r.at_ ≠ dn ∧ r.at_ ≠ dw ∧ r.at_ ≠ b ∧ r.at_ ≠ a := fun r hr => by
        obtain ⟨a1, a2, a3⟩ := at_ne hb1 hr
        have h1 := hb1.hl r hr
        exact ⟨e3 _ _ (by rw [upd_ne a2]; exact h1), a2, a3, a1, fun z => by rw [z, na1] at h1; cases h1⟩
      -- next_number += 1
      refine x_var rfl ⟨b, _, dx, _, _, rfl, by rw [upd_ne n2]; exact hob3, rc.cl, rc.nX, fl_nex _ _ _, ?_⟩
      refine x_c ⟨_, _, rfl, rfl, dx, _, by rw [upd_ne n2]; exact hob3, by show 3 < 1000; decide, ?_⟩
      rw [flds_put]
      -- the book as it stands
      have hB : BookAt g (upd (upd H3 dw (.dK (wdK rs ++ [(Sum.inl (nx : Int), V.ref a)]))) b (.ins g.cRings dx (flds dn dw ((nx : Int) + 1)))) b dn dw (rs ++ [⟨minT w, nx, a, []⟩]) (nx + 1) := by
        refine ⟨⟨dx, ?_⟩, ?_, ?_, fun r hr => ?_, hb1.nd, ?_⟩
        · rw [upd_same]
          rfl
        · rw [upd_ne n1.symm, upd_ne hb1.nd, hdn3]
          unfold nmK
          rw [List.map_append]
          rfl
        · rw [upd_ne n2.symm, upd_same]
          unfold wdK
          rw [List.map_append]
          rfl
        · rcases List.mem_append.mp hr with hr | hr
          · obtain ⟨k1, k2, k3, k4, k5⟩ := hr3 r hr
            rw [upd_ne k4, upd_ne k3]
            exact k1
          · obtain rfl := List.mem_singleton.mp hr
            show upd (upd H3 dw _) b _ a = _
            rw [upd_ne ab.symm, upd_ne adw.symm]
            exact ha
        · refine List.pairwise_append.mpr ⟨hb1.na, List.pairwise_singleton _ _, fun r hr s hs => ?_⟩
          obtain rfl := List.mem_singleton.mp hs
          exact (hr3 r hr).2.2.2.2
      have hF : Fr (feet b dn dw rs) H (upd (upd H3 dw (.dK (wdK rs ++ [(Sum.inl (nx : Int), V.ref a)]))) b (.ins g.cRings dx (flds dn dw ((nx : Int) + 1)))) :=
        (Fr.of e1).trs ((Fr.put (by simp [feet])).trs ((Fr.of e3).trs ((Fr.put (by simp [feet])).trs (Fr.put (by simp [feet])))))
      have ok2 : BookOk' (rs ++ [⟨minT w, nx, a, []⟩]) := ⟨List.pairwise_append.mpr ⟨ok.up, List.pairwise_singleton _ _, fun r hr s hs => by
        obtain rfl := List.mem_singleton.mp hs
        exact ok.lt r hr⟩, List.pairwise_append.mpr ⟨ok.nf, List.pairwise_singleton _ _, fun r hr s hs => by
        obtain rfl := List.mem_singleton.mp hs
        exact hno r hr⟩⟩
      generalize upd (upd H3 dw _) b _ = H4 at *
      have hmem : (⟨minT w, nx, a, []⟩ : Ring) ∈ rs ++ [⟨minT w, nx, a, []⟩] := List.mem_append_right _ (List.mem_singleton.mpr rfl)
      walk_at "y"
      refine xd_get (x_bnum (rc := rc) hB (tv0 rfl) (x_var rfl ⟨dn, _, rfl, g_num' hB ok2 hmem rfl, ?_⟩))
      walk_at "y"
      refine xd_get (x_bwor (rc := rc) hB (tv0 rfl) (x_var rfl ⟨dw, _, rfl, g_wor' hB ok2 hmem, ?_⟩))
      have hl := hB.hl _ hmem
      walk_at "y"
      refine x_append hl (by rw [sizeLine_eq]; simp [tx]) ?_
      walk_at "y"
      have nH := fresh_back e1 na1
      refine q a _ nH ?_ fun x o h n => ?_
      · have h5 := hB.put ok2.up hmem w
        rw [show addTo (rs ++ [(⟨minT w, nx, a, []⟩ : Ring)]) nx w = rs ++ [⟨minT w, nx, a, [w]⟩] from addTo_new ok.lt] at h5
        exact h5
      · rw [upd_ne (ne_of_none h nH)]
        exact hF x o h n
  · show t_Rings_add g E (D0 Q) [some (.ref b), some v, none, none] H
    unfold t_Rings_add
    walk_at "y"
    exact c_least_formN hv q
/-! ### ring_of -/
def sp_Rings_ring_of (g : G) : Sp := fun vs H Q E => RC g ∧ ((∃ b dn dw rs nx w, vs = [.ref b, .str (ST w)] ∧ Word w ∧ BookAt g H b dn dw rs nx ∧ BookOk rs nx ∧
    ((∃ r ∈ rs, r.form = minT w ∧ ∀ H', Ex H H' → Q (.int (r.num : Int)) H') ∨ ((∀ r ∈ rs, r.form ≠ minT w) ∧ ∀ H', Ex H H' → Q .non H'))) ∨
  (∃ b v dn dw rs nx, vs = [.ref b, v] ∧ BookAt g H b dn dw rs nx ∧ IsW g.K H v false ∧ ∀ H', Ex H H' → E (.ref g.cNoWord) none H'))
/-- Rings.ring_of: slots self, word -/
def t_Rings_ring_of (g : G) (E : XK) : TS :=
  tRet (tDGet1 (tFld g.K (tVar 0) "numbers") (tCall (sp_least_form g) [] E (tCons (tVar 1) tNil)))
theorem p_Rings_ring_of (h : sp_Rings_ring_of g vs H Q E) : t_Rings_ring_of g E (D0 Q) (st0 2 vs) H := by
  obtain ⟨rc, h⟩ := h
  rcases h with ⟨b, dn, dw, rs, nx, w, rfl, hw, hb, ok, hor⟩ | ⟨b, v, dn, dw, rs, nx, rfl, hb, hv, q⟩
  · show t_Rings_ring_of g E (D0 Q) [some (.ref b), some (.str (ST w))] H
    unfold t_Rings_ring_of
    walk_at "y"
    refine x_dget1 (x_bnum (rc := rc) hb (tv0 rfl) ⟨dn, rfl, isD_of hb.hn, ?_⟩)
    walk_at "y"
    refine c_least_form hw fun p H1 L e1 => ?_
    rw [least_minT L]
    have hb1 := hb.ex e1
    rcases hor with ⟨r, hr, hf, q⟩ | ⟨hno, q⟩
    · exact ⟨_, g_num hb1 ok hr hf, q _ e1⟩
    · exact ⟨_, g_num0 hb1 hno, q _ e1⟩
  · show t_Rings_ring_of g E (D0 Q) [some (.ref b), some v] H
    unfold t_Rings_ring_of
    walk_at "y"
    refine x_dget1 (x_bnum (rc := rc) hb (tv0 rfl) ⟨dn, rfl, isD_of hb.hn, ?_⟩)
    walk_at "y"
    exact c_least_formN hv q
/-! ### forms -/
def pairK (H : Hp) : V → Int × Str
  | .ref t => match H t with
    | some (.tup [.int i, .str x]) => (i, x)
    | _ => (0, Str.empty)
  | _ => (0, Str.empty)
theorem pairK_at {H : Hp} {t : Addr} {i : Int} {x : Str} (h : H t = some (.tup [.int i, .str x])) : pairK H (.ref t) = (i, x) := by
  show (match H t with
    | some (.tup [.int i, .str x]) => (i, x)
    | _ => (0, Str.empty)) = (i, x)
  rw [h]
theorem perm_sorted {α : Type} (key : α → Int) : ∀ {xs ys : List α}, ys.Perm xs → xs.Pairwise (fun a b => key a < key b) → ys.Pairwise (fun a b => key a ≤ key b) → ys = xs
  | [], ys, hp, _, _ => hp.eq_nil
  | x :: xs, [], hp, _, _ => absurd hp.length_eq (by simp)
  | x :: xs, y :: ys, hp, h1, h2 => by
    have hy : y = x := by
      rcases List.mem_cons.mp (hp.mem_iff.mp (List.mem_cons_self (a := y) (l := ys))) with h | h
      · exact h
      · have k1 := (List.pairwise_cons.mp h1).1 y h
        rcases List.mem_cons.mp (hp.mem_iff.mpr (List.mem_cons_self (a := x) (l := xs))) with h | h
        · exact h.symm
        · have k2 := (List.pairwise_cons.mp h2).1 x h
          omega
    subst hy
    rw [perm_sorted key hp.cons_inv (List.pairwise_cons.mp h1).2 (List.pairwise_cons.mp h2).2]
/-- the pairs (number, form) -/
def prs (r : Ring) : List V := [.int (r.num : Int), .str (ST r.form)]
def sp_Rings_forms (g : G) : Sp := fun vs H Q _ => RC g ∧ ∃ b dn dw rs nx, vs = [.ref b] ∧ BookAt g H b dn dw rs nx ∧ BookOk rs nx ∧ rs.length ≤ 1000 ∧
  ∀ (ts : List Addr) p H', ts.length = rs.length → (∀ (i : Nat) (t : Addr) (r : Ring), ts[i]? = some t → rs[i]? = some r → H' t = some (.tup (prs r))) → H p = none → Ex H H' → H' p = some (.lst (ts.map V.ref)) → Q (.ref p) H'
/-- Rings.forms: slots self, form, number -/
def t_Rings_forms (g : G) : TS :=
  tRet (tCB (rSortedPS g.K) (tCons (tLockE (tLc (iItems (tFld g.K (tVar 0) "numbers")) (gTup g.K 2 (gCons (gName 1) (gCons (gName 2) gNil))) tYes (tTup (tCons (tVar 2) (tCons (tVar 1) tNil))) [1, 2])) tNil))
theorem p_Rings_forms (h : sp_Rings_forms g vs H Q E) : t_Rings_forms g (D0 Q) (st0 3 vs) H := by
  obtain ⟨rc, b, dn, dw, rs, nx, rfl, hb, ok, hl, q⟩ := h
  show t_Rings_forms g (D0 Q) [some (.ref b), none, none] H
  unfold t_Rings_forms
  obtain ⟨n1, n2⟩ := b_ne hb
  obtain ⟨dx, hob⟩ := hb.ob
  walk_at "y"
  refine x_lock hb.hn trivial fun od => ?_
  have hob' : upd H dn (.frz od (.dK (nmK rs))) b = some (.ins g.cRings dx (flds dn dw (nx : Int))) := by rw [upd_ne n1]; exact hob
  have hdn' : upd H dn (.frz od (.dK (nmK rs))) dn = some (.frz od (.dK (nmK rs))) := upd_same
  have hne : ∀ {x : Addr}, upd H dn (.frz od (.dK (nmK rs))) x = none → H x = none := fun {x} hx => by
    by_cases z : x = dn
    · rw [z, upd_same] at hx
      cases hx
    · rwa [upd_ne z] at hx
  have hback : ∀ {x : Addr} {o : HO}, H x = some o → x ≠ dn → upd H dn (.frz od (.dK (nmK rs))) x = some o := fun h z => by rw [upd_ne z]; exact h
  generalize upd H dn (.frz od (.dK (nmK rs))) = HL at *
  refine x_lcItems (x_fld (x_var rfl ⟨b, _, dx, _, _, rfl, hob', rc.cl, rc.nN, fl_num _ _ _, dn, od, _, rfl, hdn', ?_⟩))
  have hlen := nmK_len rs
  refine lc_tup (n := rs.length) (fun i => match rs[i]? with | some r => prs r | none => []) (by omega) (fun i H' e hi => ⟨e _ _ hdn', by omega⟩) (fun H' e => ⟨e _ _ hdn', by omega⟩) (fun i H' hi e x H'' hy R hR => ?_) (fun x H'' N N' hN hg => ?_) fun ts p H' hts hF np e hp => ?_
  · obtain ⟨T, k, v, hk, rfl, hT, rfl⟩ := hy
    have hri : rs[i]? = some rs[i] := List.getElem?_eq_getElem hi
    unfold nmK at hk
    rw [List.getElem?_map, hri] at hk
    obtain ⟨rfl, rfl⟩ := Prod.mk.inj (Option.some.inj hk)
    refine x_gtup (xs := [.str (ST rs[i].form), .int (rs[i].num : Int)]) upd_same rfl (x_gcons (x_gcons (x_gnil ⟨rfl, ?_⟩)))
    walk_at "y"
    rename_i t H4 nt e4 ht
    refine hR t H4 ?_ (Ex.trs (Evl.Ex.new hT) e4)
    rw [hri]
    exact ht
  · obtain ⟨T, xs, rfl, hT, hl, v, ys, rfl, w, zs, rfl, rfl, hn⟩ := hg
    exact ⟨T, _, rfl, hT, hl, v, _, rfl, w, _, rfl, rfl, hN _ _ hn⟩
  · have hpd : H' dn = some (.frz od (.dK (nmK rs))) := e _ _ hdn'
    refine ⟨hpd, ?_⟩
    have hnp := hne np
    have pdn : p ≠ dn := fun z => by rw [z, hpd] at hp; cases hp
    have e' : Ex H (upd H' dn (.dK (nmK rs))) := fun x o h => by
      by_cases z : x = dn
      · subst z
        rw [upd_same, ← h, hb.hn]
      · rw [upd_ne z]
        exact e _ _ (hback h z)
    have hp' : upd H' dn (.dK (nmK rs)) p = some (.lst (ts.map V.ref)) := by rw [upd_ne pdn]; exact hp
    have hF' : ∀ (i : Nat) (t : Addr) (r : Ring), ts[i]? = some t → rs[i]? = some r → upd H' dn (.dK (nmK rs)) t = some (.tup (prs r)) := fun i t r ht hr => by
      have h1 := hF i t ht
      rw [hr] at h1
      rw [upd_ne fun z => by rw [z, hpd] at h1; cases h1]
      exact h1
    generalize upd H' dn (.dK (nmK rs)) = H2 at *
    walk_at "y"
    -- sorted by their numbers: as they stand
    have hk : ∀ (i : Nat) (t : Addr) (r : Ring), ts[i]? = some t → rs[i]? = some r → pairK H2 (.ref t) = ((r.num : Int), ST r.form) := fun i t r h1 h2 => by
      exact pairK_at (hF' i t r h1 h2)
    refine ⟨p, _, pairK H2, rfl, SqL.of hp', fun x hx => ?_, fun ys p2 hperm hup hn2 => ?_⟩
    · obtain ⟨t, ht, rfl⟩ := List.mem_map.mp hx
      obtain ⟨i, hi⟩ := List.getElem?_of_mem ht
      have hil := (List.getElem?_eq_some_iff.mp hi).1
      have hri : rs[i]? = some rs[i] := List.getElem?_eq_getElem (by omega)
      refine ⟨t, rfl, ?_⟩
      rw [hk i t _ hi hri]
      exact hF' i t _ hi hri
    · have hxs : (ts.map V.ref).Pairwise fun x y => (pairK H2 x).1 < (pairK H2 y).1 := by
        rw [List.pairwise_map]
        refine List.pairwise_iff_getElem.mpr fun i j hi hj hij => ?_
        rw [hk i _ _ (List.getElem?_eq_getElem hi) (List.getElem?_eq_getElem (show i < rs.length by omega)), hk j _ _ (List.getElem?_eq_getElem hj) (List.getElem?_eq_getElem (show j < rs.length by omega))]
        have := List.pairwise_iff_getElem.mp ok.up i j (by omega) (by omega) hij
        show ((rs[i].num : Nat) : Int) < ((rs[j].num : Nat) : Int)
        omega
      obtain rfl := perm_sorted (fun x => (pairK H2 x).1) hperm hxs hup
      have e2 := Evl.Ex.new hn2 (o := HO.lst (ts.map V.ref))
      exact q ts p2 _ hts (fun i t r h1 h2 => e2 _ _ (hF' i t r h1 h2)) (fresh_back e' hn2) (Ex.trs e' e2) upd_same
/-! ### many -/
def total (rs : List Ring) : Nat := (rs.map fun r => r.ws.length).sum
def sp_Rings_many (g : G) : Sp := fun vs H Q _ => RC g ∧ ∃ b dn dw rs nx, vs = [.ref b] ∧ BookAt g H b dn dw rs nx ∧ rs.length ≤ 1000 ∧ ∀ H', Ex H H' → Q (.int ((total rs : Nat) : Int)) H'
/-- Rings.many: slots self, words -/
def t_Rings_many (g : G) : TS :=
  tRet (tCB (rSum g.K) (tCons (tLockE (tLc (iVals (tFld g.K (tVar 0) "words")) (gName 1) tYes (tCB (rLen g.K) (tCons (tVar 1) tNil)) [1])) tNil))
theorem p_Rings_many (h : sp_Rings_many g vs H Q E) : t_Rings_many g (D0 Q) (st0 2 vs) H := by
  obtain ⟨rc, b, dn, dw, rs, nx, rfl, hb, hl, q⟩ := h
  show t_Rings_many g (D0 Q) [some (.ref b), none] H
  unfold t_Rings_many
  obtain ⟨n1, n2⟩ := b_ne hb
  obtain ⟨dx, hob⟩ := hb.ob
  walk_at "y"
  refine x_lock hb.hw trivial fun od => ?_
  have hob' : upd H dw (.frz od (.dK (wdK rs))) b = some (.ins g.cRings dx (flds dn dw (nx : Int))) := by rw [upd_ne n2]; exact hob
  have hdw' : upd H dw (.frz od (.dK (wdK rs))) dw = some (.frz od (.dK (wdK rs))) := upd_same
  have hback : ∀ {x : Addr} {o : HO}, H x = some o → x ≠ dw → upd H dw (.frz od (.dK (wdK rs))) x = some o := fun h z => by rw [upd_ne z]; exact h
  generalize upd H dw (.frz od (.dK (wdK rs))) = HL at *
  refine x_lcVals (x_fld (x_var rfl ⟨b, _, dx, _, _, rfl, hob', rc.cl, rc.nW, fl_wor _ _ _, dw, od, _, rfl, hdw', ?_⟩))
  have hlen := wdK_len rs
  refine lc_val (n := rs.length) (fun i => match rs[i]? with | some r => .int (r.ws.length : Int) | none => .non) (by omega) (fun i H' e hi => ⟨e _ _ hdw', by omega⟩) (fun H' e => ⟨e _ _ hdw', by omega⟩) (fun i H' hi e x H'' hy R hR => ?_) (fun p H' np e hp => ?_) (fun x H'' N N' hN hg => hN _ _ hg)
  · obtain ⟨rfl, k, hk⟩ := hy
    have hri : rs[i]? = some rs[i] := List.getElem?_eq_getElem hi
    unfold wdK at hk
    rw [List.getElem?_map, hri] at hk
    obtain ⟨rfl, rfl⟩ := Prod.mk.inj (Option.some.inj hk)
    refine ⟨rfl, ?_⟩
    have hr := List.getElem_mem hi
    have hli := e _ _ (hback (hb.hl _ hr) (at_ne hb hr).2.2)
    walk_at "y"
    have := hR H'' Ex.rfl'
    rw [hri] at this
    rw [tx_len]
    exact this
  · have hpd : H' dw = some (.frz od (.dK (wdK rs))) := e _ _ hdw'
    refine ⟨hpd, ?_⟩
    have pdw : p ≠ dw := fun z => by rw [z, hpd] at hp; cases hp
    have e' : Ex H (upd H' dw (.dK (wdK rs))) := fun x o h => by
      by_cases z : x = dw
      · subst z
        rw [upd_same, ← h, hb.hw]
      · rw [upd_ne z]
        exact e _ _ (hback h z)
    have hmap : (List.range rs.length).map (fun i => match rs[i]? with | some r => V.int (r.ws.length : Int) | none => .non) = (rs.map fun r => (r.ws.length : Int)).map V.int := by
      apply List.ext_getElem
      · simp
      · intro i h1 h2
        rw [List.length_map, List.length_range] at h1
        rw [List.getElem_map, List.getElem_range, List.getElem_map, List.getElem_map, List.getElem?_eq_getElem h1]
    rw [hmap] at hp
    have hp' : upd H' dw (.dK (wdK rs)) p = some (.lst ((rs.map fun r => (r.ws.length : Int)).map V.int)) := by rw [upd_ne pdw]; exact hp
    generalize upd H' dw (.dK (wdK rs)) = H2 at *
    walk_at "y"
    refine x_sum (SqL.of hp') ?_
    have hs : ∀ l : List Ring, (l.map fun r => (r.ws.length : Int)).sum = ((total l : Nat) : Int) := by
      intro l
      unfold total
      induction l with
      | nil => rfl
      | cons r l ih => rw [List.map_cons, List.sum_cons, ih, List.map_cons, List.sum_cons, Int.natCast_add]
    rw [hs]
    exact q _ e'
/-! ### the promises' arguments -/
theorem len_Rings___init__ (h : sp_Rings___init__ g vs H Q E) : vs.length = 1 := by
  obtain ⟨_, _, _, rfl, _⟩ := h
  rfl
theorem len_Rings_add (h : sp_Rings_add g vs H Q E) : vs.length = 2 := by
  obtain ⟨_, ⟨_, _, _, _, _, _, rfl, _⟩ | ⟨_, _, rfl, _⟩⟩ := h <;> rfl
theorem len_Rings_ring_of (h : sp_Rings_ring_of g vs H Q E) : vs.length = 2 := by
  obtain ⟨_, ⟨_, _, _, _, _, _, rfl, _⟩ | ⟨_, _, _, _, _, _, rfl, _⟩⟩ := h <;> rfl
theorem len_Rings_forms (h : sp_Rings_forms g vs H Q E) : vs.length = 1 := by
  obtain ⟨_, _, _, _, _, _, rfl, _⟩ := h
  rfl
theorem len_Rings_many (h : sp_Rings_many g vs H Q E) : vs.length = 1 := by
  obtain ⟨_, _, _, _, _, _, rfl, _⟩ := h
  rfl
end
end RW

/-! P21: the class Rings: take, others, members. -/
namespace RW
open PySem PySem.Spec PyProof.Rows L2
open Evl (Ex ex_l ex_t ex_rd fresh_back)
local macro_rules | `(tactic| walk_at "x") => `(tactic| first
  | ((with_reducible apply x_var); exact rfl)
  | with_reducible refine x_c ?_
  | with_reducible refine x_op ?_
  | with_reducible refine x_un ?_
  | with_reducible refine x_neg ?_
  | with_reducible refine x_addI ?_
  | with_reducible refine x_subI ?_
  | with_reducible refine x_ltI ?_
  | with_reducible refine x_ltS ?_
  | with_reducible refine x_leI ?_
  | with_reducible refine x_leS ?_
  | with_reducible refine x_gtI ?_
  | with_reducible refine x_gtS ?_
  | with_reducible refine x_geI ?_
  | with_reducible refine x_eqI ?_
  | with_reducible refine x_eqS ?_
  | with_reducible refine x_eqB ?_
  | with_reducible refine x_neI ?_
  | with_reducible refine x_neS ?_
  | with_reducible refine x_isN ?_
  | with_reducible refine x_isB ?_
  | with_reducible refine x_isNotN ?_
  | with_reducible refine x_isNotB ?_
  | with_reducible refine x_inS ?_
  | with_reducible refine x_sl ?_
  | with_reducible refine x_part ?_
  | with_reducible refine x_nopart ?_
  | with_reducible refine x_rev ?_
  | with_reducible refine x_nil ?_
  | with_reducible refine x_cons ?_
  | with_reducible refine x_lst0 ?_
  | with_reducible refine x_tup0 ?_
  | with_reducible refine x_call0 ?_
  | with_reducible refine x_callS ?_
  | with_reducible refine x_cb ?_
  | with_reducible refine x_m1 ?_
  | with_reducible refine x_m1s ?_
  | with_reducible refine x_bm ?_
  | with_reducible refine x_bm0 ?_
  | with_reducible refine x_tyS ?_
  | with_reducible refine x_max2 ?_
  | with_reducible refine x_min2 ?_
  | with_reducible refine x_seq ?_
  | with_reducible refine x_asg ?_
  | with_reducible refine x_asgG ?_
  | with_reducible refine x_ret ?_
  | with_reducible refine x_retN ?_
  | with_reducible refine x_if ?_
  | with_reducible refine x_next ?_
  | with_reducible refine x_drop ?_
  | with_reducible refine x_break ?_
  | with_reducible refine x_cont ?_
  | with_reducible refine x_par ?_
  | with_reducible refine x_par2 ?_
  | ((with_reducible apply x_aug); exact rfl)
  | with_reducible refine x_ip ?_
  | with_reducible refine x_test ?_
  | with_reducible refine x_tB ?_
  | with_reducible refine x_bl ?_
  | with_reducible refine x_and ?_
  | with_reducible refine x_or ?_
  | with_reducible refine x_not ?_
  | with_reducible refine x_andV ?_
  | with_reducible refine x_orV ?_
  | with_reducible refine x_notV ?_
  | with_reducible refine x_ifV ?_
  | with_reducible refine x_chain ?_
  | with_reducible refine x_intA ?_
  | with_reducible refine x_strA ?_
  | with_reducible refine x_yes ?_
  | with_reducible refine iteT ?_
  | with_reducible refine iteF ?_
  | with_reducible refine x_forRng1 ?_
  | with_reducible refine x_forRng2 ?_
  | with_reducible refine x_forLst ?_
  | with_reducible refine x_forU ?_
  | with_reducible refine x_lcRng1 ?_
  | with_reducible refine x_lcRng2 ?_
  | with_reducible refine x_lcLst ?_
  | with_reducible refine x_lcU ?_
  | with_reducible refine x_uS ?_
  | with_reducible refine x_gcons ?_
  | with_reducible refine x_gnil ?_
  -- with side conditions
  | ((with_reducible refine x_addS ?hs ?_); (case hs => walk_at "sz"))
  | ((with_reducible refine x_divI ?hs ?ht ?_); (case hs => walk_at "sz"); (case ht => walk_at "sz"))
  | ((with_reducible refine x_modI ?hs ?_); (case hs => walk_at "sz"))
  | ((with_reducible refine x_mulI ?hs ?_); (case hs => walk_at "sz"))
  | ((with_reducible refine x_lenS ?hs ?_); (case hs => walk_at "sz"))
  | ((with_reducible refine x_slSlo ?hs ?_); (case hs => walk_at "sz"))
  | ((with_reducible refine x_slShi ?hs ?_); (case hs => walk_at "sz"))
  | ((with_reducible refine x_slSlohi ?hs ?_); (case hs => walk_at "sz"))
  | ((with_reducible refine x_slShiNeg ?hs ?_); (case hs => walk_at "sz"))
  | ((with_reducible refine x_slSloI ?ht ?hs ?_); (case ht => walk_at "sz"); (case hs => walk_at "sz"))
  | ((with_reducible refine x_slShiI ?ht ?hs ?_); (case ht => walk_at "sz"); (case hs => walk_at "sz"))
  | ((with_reducible refine x_rng1 ?hs ?ht ?_); (case hs => walk_at "sz"); (case ht => walk_at "sz"))
  | ((with_reducible refine x_rng2 ?hs ?_); (case hs => walk_at "sz"))
  | ((with_reducible refine x_newL ?hs ?_); (case hs => walk_at "sz"); intro px Hx npx ex hpx)
  | ((with_reducible refine x_newT ?hs ?_); (case hs => walk_at "sz"); intro px Hx npx ex hpx)
  | ((with_reducible apply x_lenL); (walk_at "hp"))
  | ((with_reducible apply x_refL); (walk_at "hp"))
  | ((with_reducible apply x_uL); (walk_at "hp"))
  | ((with_reducible apply x_tyL); (walk_at "hp"))
  )
local macro_rules | `(tactic| walk_at "xs") => `(tactic| repeat (walk_at "x"))
/- sizes, bounds -/
local macro_rules | `(tactic| walk_at "sz") => `(tactic| first
  | with_reducible assumption
  | (rw [sizeLine_eq]; first | omega | (simp only [List.length_cons, List.length_nil, List.length_append, List.length_map, List.length_reverse, List.length_range, List.length_drop, List.length_take, List.length_dropLast]; omega))
  | omega
  | (unfold CMul; omega)
  | (simp only [List.length_cons, List.length_nil, List.length_append, List.length_map, List.length_reverse, List.length_range, List.length_drop, List.length_take, List.length_dropLast]; omega))
/- what stands in the heap -/
local macro_rules | `(tactic| walk_at "hp") => `(tactic| first
  | assumption
  | ((with_reducible apply SqL.of); walk_at "hp")
  | ((with_reducible apply SqT.of); walk_at "hp")
  | ((with_reducible apply Ex.at_); assumption; walk_at "hp")
  | ((with_reducible apply ex_l); assumption; walk_at "hp")
  | ((with_reducible apply ex_t); assumption; walk_at "hp"))
local macro_rules | `(tactic| walk_at "ex") => `(tactic| first
  | assumption
  | exact Ex.rfl'
  | (refine Ex.trs ?_ (by assumption); walk_at "ex"))
/- an item at a place within: what is left speaks of the item -/
local macro_rules | `(tactic| walk_at "ix") => `(tactic| ((with_reducible apply x_ixLm); (walk_at "hp"); (walk_at "sz"); (walk_at "sz")))
local macro_rules | `(tactic| walk_at "is") => `(tactic| ((with_reducible apply x_ixSm); (walk_at "sz"); (walk_at "sz"); (walk_at "sz")))

local macro_rules | `(tactic| walk_at "y") => `(tactic| repeat (walk_at "x"))
/-- another list in the ring of that number -/
def setW (rs : List Ring) (n : Nat) (l : List (List Nat)) : List Ring := rs.map fun r => ⟨r.form, r.num, r.at_, if r.num = n then l else r.ws⟩
theorem setW_nm (rs : List Ring) (n : Nat) (l : List (List Nat)) : nmK (setW rs n l) = nmK rs := by
  unfold nmK setW
  rw [List.map_map]
  rfl
theorem setW_wd (rs : List Ring) (n : Nat) (l : List (List Nat)) : wdK (setW rs n l) = wdK rs := by
  unfold wdK setW
  rw [List.map_map]
  rfl
theorem setW_mem {rs : List Ring} {n : Nat} {l : List (List Nat)} {s : Ring} (h : s ∈ setW rs n l) : ∃ s0 ∈ rs, s.form = s0.form ∧ s.num = s0.num ∧ s.at_ = s0.at_ ∧ s.ws = if s0.num = n then l else s0.ws := by
  unfold setW at h
  obtain ⟨s0, h0, rfl⟩ := List.mem_map.mp h
  exact ⟨s0, h0, rfl, rfl, rfl, rfl⟩
/-- the ring without the word; no ring is empty -/
def keepR (rs : List Ring) : List Ring := rs.filter fun r => !r.ws.isEmpty
section
variable {g : G} {vs : List V} {H : Hp} {Q : VK} {E : XK} {K : Frag}
theorem BookAt.putW {b dn dw : Addr} {rs : List Ring} {nx : Nat} (hb : BookAt g H b dn dw rs nx) (up : rs.Pairwise fun a b => a.num < b.num) {r : Ring} (hr : r ∈ rs) (l : List (List Nat)) : BookAt g (upd H r.at_ (.lst (tx l))) b dn dw (setW rs r.num l) nx := by
  obtain ⟨a1, a2, a3⟩ := at_ne hb hr
  refine ⟨hb.ob.elim fun dx o => ⟨dx, by rw [upd_ne a1.symm]; exact o⟩, by rw [upd_ne a2.symm, setW_nm]; exact hb.hn, by rw [upd_ne a3.symm, setW_wd]; exact hb.hw, fun s hs => ?_, hb.nd, ?_⟩
  · obtain ⟨s0, hs0, _, _, h3, h4⟩ := setW_mem hs
    rw [h3, h4]
    by_cases e : s0.num = r.num
    · obtain rfl := ring_one up hs0 hr e
      rw [upd_same, if_pos rfl]
    · have : s0.at_ ≠ r.at_ := fun z => e (by rw [at_one hb.na hs0 hr z])
      rw [upd_ne this, if_neg e]
      exact hb.hl s0 hs0
  · unfold setW
    rw [List.pairwise_map]
    exact hb.na
theorem setW_up {rs : List Ring} {n : Nat} {l : List (List Nat)} (h : BookOk' rs) : BookOk' (setW rs n l) := by
  refine ⟨?_, ?_⟩
  · unfold setW
    rw [List.pairwise_map]
    exact h.up
  · unfold setW
    rw [List.pairwise_map]
    exact h.nf
theorem form_one {rs : List Ring} (h : rs.Pairwise fun a b => a.form ≠ b.form) {r s : Ring} (hr : r ∈ rs) (hs : s ∈ rs) (e : r.form = s.form) : r = s := by
  obtain ⟨i, hi, rfl⟩ := List.mem_iff_getElem.mp hr
  obtain ⟨j, hj, rfl⟩ := List.mem_iff_getElem.mp hs
  rcases Nat.lt_trichotomy i j with c | c | c
  · exact absurd e (List.pairwise_iff_getElem.mp h i j hi hj c)
  · subst c
    rfl
  · exact absurd e.symm (List.pairwise_iff_getElem.mp h j i hj hi c)
/-- both dicts without the ring -/
theorem drop_wd {rs : List Ring} {n : Nat} : dropK (wdK rs) (.inl (n : Int)) = wdK (rs.filter fun r => decide (r.num ≠ n)) := by
  unfold dropK wdK
  rw [List.filter_map]
  congr 1
  apply List.filter_congr
  intro r _
  show decide ((Sum.inl (r.num : Int) : Key) ≠ Sum.inl (n : Int)) = decide (r.num ≠ n)
  rw [decide_eq_decide]
  constructor
  · intro h z
    exact h (by rw [z])
  · intro h z
    have := Sum.inl.inj z
    omega
theorem drop_nm {rs : List Ring} (h : BookOk' rs) {r : Ring} (hr : r ∈ rs) : dropK (nmK rs) (.inr (ST r.form)) = nmK (rs.filter fun s => decide (s.num ≠ r.num)) := by
  unfold dropK nmK
  rw [List.filter_map]
  congr 1
  apply List.filter_congr
  intro s hs
  show decide ((Sum.inr (ST s.form) : Key) ≠ Sum.inr (ST r.form)) = decide (s.num ≠ r.num)
  rw [decide_eq_decide]
  constructor
  · intro h1 z
    exact h1 (by rw [ring_one h.up hs hr z])
  · intro h1 z
    have z := ST_inj.mp (Sum.inr.inj z)
    exact h1 (by rw [form_one h.nf hs hr z])
theorem keep_eq {rs : List Ring} {nx : Nat} (ok : BookOk rs nx) {r : Ring} (hr : r ∈ rs) {l : List (List Nat)} (he : l = []) : ((setW rs r.num l).filter fun s => decide (s.num ≠ r.num)) = keepR (setW rs r.num l) := by
  unfold keepR
  apply List.filter_congr
  intro s hs
  obtain ⟨s0, hs0, _, h2, _, h4⟩ := setW_mem hs
  rw [h2, h4]
  by_cases c : s0.num = r.num
  · rw [if_pos c, he, decide_eq_false (fun h => h c)]
    rfl
  · rw [if_neg c, decide_eq_true c]
    have := ok.ne s0 hs0
    cases h : s0.ws with
    | nil => exact absurd h this
    | cons _ _ => rfl
/-! ### take -/
def sp_k12_Rings_take (g : G) : Sp := fun vs H Q E => RC g ∧ ((∃ b dn dw rs nx w, vs = [.ref b, .str (ST w)] ∧ Word w ∧ BookAt g H b dn dw rs nx ∧ BookOk rs nx ∧ rs.length ≤ 1000 ∧ (∀ r ∈ rs, r.ws.length ≤ 1000) ∧
    ((∃ r ∈ rs, r.form = minT w ∧ w ∈ r.ws ∧ ∀ H', BookAt g H' b dn dw (keepR (setW rs r.num (r.ws.erase w))) nx → Fr (feet b dn dw rs) H H' → Q (.int (r.num : Int)) H') ∨
     ((∀ r ∈ rs, r.form = minT w → w ∉ r.ws) ∧ ∀ H', Ex H H' → E (.ref g.cNoRing) none H'))) ∨
  (∃ b v, vs = [.ref b, v] ∧ IsW g.K H v false ∧ ∀ H', Ex H H' → E (.ref g.cNoWord) none H'))
/-- Rings.take: slots self, word, form, number -/
def t_k12_Rings_take (g : G) (E : XK) : TS :=
  tSeq (tAsg (tCall (sp_least_form g) [] E (tCons (tVar 1) tNil)) (gName 2))
    (tSeq (tIfS (tOr (tB (tDNotIn (tVar 2) (tFld g.K (tVar 0) "numbers"))) (tTest (tOp (uNotIn g.K) (tVar 1) (tDGet (tFld g.K (tVar 0) "words") (tDGet (tFld g.K (tVar 0) "numbers") (tVar 2)))))) (tRaise g.cNoRing E) tNext)
    (tSeq (tAsg (tDGet (tFld g.K (tVar 0) "numbers") (tVar 2)) (gName 3))
    (tSeq (tDrop (tBM g.K "list" (rRemD g.K) (tDGet (tFld g.K (tVar 0) "words") (tVar 3)) (tCons (tVar 1) tNil)))
    (tSeq (tIfS (tTest (tOp (uEq g.K) (tDGet (tFld g.K (tVar 0) "words") (tVar 3)) (tLst tNil))) (tSeq (tDrop (tDPop1 (tFld g.K (tVar 0) "words") (tVar 3)))
    (tDrop (tDPop1 (tFld g.K (tVar 0) "numbers") (tVar 2)))) tNext)
    (tRet (tVar 3))))))
theorem er_map {α β : Type} (f : α → β) : ∀ (l : List α) (j : Nat), (l.map f).eraseIdx j = (l.eraseIdx j).map f
  | [], _ => rfl
  | _ :: _, 0 => rfl
  | a :: l, j + 1 => by
    rw [List.map_cons, List.eraseIdx_cons_succ, er_map f l j, List.eraseIdx_cons_succ, List.map_cons]
theorem x_remTx {p : Addr} {l : List Nat} {ls : List (List Nat)} (h : H p = some (.lst (tx ls))) (hm : l ∈ ls) (ho : ∀ m ∈ ls, Okc m) (q : Q .non (upd H p (.lst (tx (ls.erase l))))) : rRemD K (.ref p) [.str (ST l)] H Q := by
  have hj : ls.idxOf l < ls.length := List.idxOf_lt_length_of_mem hm
  have ev : ∀ a : List Nat, PyData.eqv (.str (ST a)) (.str (ST l)) = decide (a = l) := fun a => by
    show (ST a == ST l) = _
    rw [Bool.beq_eq_decide_eq]
    by_cases h : a = l
    · subst h
      rw [decide_eq_true rfl, decide_eq_true rfl]
    · rw [decide_eq_false h, decide_eq_false fun q => h (ST_inj.mp q)]
  refine ⟨p, tx ls, .str (ST l), .str (ST l), dtx ls, ls.idxOf l, .str (ST l), rfl, rfl, h, dpAll_tx ls, .str _, shaped_tx ho, ?_, ?_, ?_, fun m z' hm' hz => ?_, ?_⟩
  · have := ho l hm
    unfold SeqAt.shaped
    rw [Bool.and_eq_true]
    refine ⟨?_, rfl⟩
    show PyData.canLay0 (.str (ST l)) = true
    unfold PyData.canLay0
    exact this
  · unfold dtx
    rw [List.getElem?_map, List.getElem?_eq_getElem hj, List.getElem_idxOf hj]
    rfl
  · rw [ev]
    exact decide_eq_true rfl
  · unfold dtx at hz
    rw [List.getElem?_map, List.getElem?_eq_getElem (by omega)] at hz
    obtain rfl := Option.some.inj hz
    rw [ev]
    refine decide_eq_false fun z => ?_
    have := List.not_of_lt_findIdx (p := (· == l)) (xs := ls) hm'
    exact absurd z (by simpa using this)
  · have e : (tx ls).eraseIdx (ls.idxOf l) = tx (ls.erase l) := by
      unfold tx
      rw [er_map, List.erase_eq_eraseIdx_of_idxOf rfl]
    rw [e]
    exact q
theorem p_k12_Rings_take (h : sp_k12_Rings_take g vs H Q E) : t_k12_Rings_take g E (D0 Q) (st0 4 vs) H := by
  obtain ⟨rc, h⟩ := h
  rcases h with ⟨b, dn, dw, rs, nx, w, rfl, hw, hb, ok, hl1, hl2, hor⟩ | ⟨b, v, rfl, hv, q⟩
  · show t_k12_Rings_take g E (D0 Q) [some (.ref b), some (.str (ST w)), none, none] H
    unfold t_k12_Rings_take
    walk_at "y"
    refine c_least_form hw fun p H1 L e1 => ?_
    rw [least_minT L]
    have hb1 := hb.ex e1
    walk_at "y"
    rcases hor with ⟨r, hr, hf, hin, q⟩ | ⟨hno, q⟩
    · refine x_dnotin (x_var rfl (x_bnum (rc := rc) hb1 (tv0 rfl) ⟨dn, _, rfl, g_num hb1 ok hr hf, ?_⟩))
      walk_at "y"
      refine x_if0 rfl ?_
      walk_at "y"
      refine xd_get (x_bwor (rc := rc) hb1 (tv0 rfl) (xd_get (x_bnum (rc := rc) hb1 (tv0 rfl) (x_var rfl ⟨dn, _, rfl, g_num hb1 ok hr hf, dw, _, rfl, g_wor hb1 ok hr, ?_⟩))))
      refine x_notinTx (SqL.of (hb1.hl r hr)) ?_
      rw [decide_eq_true hin]
      walk_at "y"
      try with_reducible refine x_if0 rfl ?_
      walk_at "y"
      refine xd_get (x_bnum (rc := rc) hb1 (tv0 rfl) (x_var rfl ⟨dn, _, rfl, g_num hb1 ok hr hf, ?_⟩))
      walk_at "y"
      refine xd_get (x_bwor (rc := rc) hb1 (tv0 rfl) (x_var rfl ⟨dw, _, rfl, g_wor hb1 ok hr, ?_⟩))
      have hl := hb1.hl r hr
      have hok : ∀ m ∈ r.ws, Okc m := fun m hm => (ok.wf r hr m hm).1.1.okc
      walk_at "y"
      refine x_remTx hl hin hok ?_
      have hB := hb1.putW ok.up hr (r.ws.erase w)
      have ok2 := setW_up (n := r.num) (l := r.ws.erase w) ok.to
      have hF : Fr (feet b dn dw rs) H (upd H1 r.at_ (.lst (tx (r.ws.erase w)))) := (Fr.of e1).trs (Fr.put (by
        unfold feet
        exact List.mem_cons_of_mem _ (List.mem_cons_of_mem _ (List.mem_cons_of_mem _ (List.mem_map_of_mem hr)))))
      have hmem : (⟨r.form, r.num, r.at_, r.ws.erase w⟩ : Ring) ∈ setW rs r.num (r.ws.erase w) := by
        unfold setW
        exact List.mem_map.mpr ⟨r, hr, by rw [if_pos rfl]⟩
      generalize upd H1 r.at_ _ = H2 at *
      walk_at "y"
      have hgw : DGet H2 dw (.int (r.num : Int)) (some (.ref r.at_)) := g_wor' (r := ⟨r.form, r.num, r.at_, r.ws.erase w⟩) hB ok2 hmem
      refine xd_get (x_bwor (rc := rc) hB (tv0 rfl) (x_var rfl ⟨dw, _, rfl, hgw, ?_⟩))
      walk_at "y"
      rename_i pe H3 npe e3 hpe
      have hl3 := e3 _ _ (hB.hl _ hmem)
      have hok3 : ∀ m ∈ r.ws.erase w, Okc m := fun m hm => hok m (List.mem_of_mem_erase hm)
      refine x_eqTx (ms := []) (SqL.of hl3) (SqL.of hpe) hok3 (fun m h => by simp at h) ?_
      have hB3 := hB.ex e3
      have hF3 := hF.trs (Fr.of (fp := feet b dn dw rs) e3)
      walk_at "y"
      refine x_ifd (fun hemp => ?_) fun hemp => ?_
      · -- the ring goes
        obtain ⟨n1, n2⟩ := b_ne hB3
        obtain ⟨dx, hob⟩ := hB3.ob
        have hgv : valV (wdK (setW rs r.num (r.ws.erase w))) (.inl (r.num : Int)) = some (.ref r.at_) := wdK_get (r := ⟨r.form, r.num, r.at_, r.ws.erase w⟩) ok2.up hmem rfl
        have hgn : valV (nmK (setW rs r.num (r.ws.erase w))) (.inr (ST (minT w))) = some (.int (r.num : Int)) := nmK_get (r := ⟨r.form, r.num, r.at_, r.ws.erase w⟩) ok2.nf hmem hf
        walk_at "y"
        refine x_dpop1 (x_bwor (rc := rc) hB3 (tv0 rfl) ⟨dw, rfl, isD_of hB3.hw, x_var rfl ⟨_, .inl (r.num : Int), _, hB3.hw, rfl, hgv, ?_⟩⟩)
        have hob4 : ∀ o, upd H3 dw o b = some (.ins g.cRings dx (flds dn dw (nx : Int))) := fun o => by rw [upd_ne n2]; exact hob
        have hdn4 : ∀ o, upd H3 dw o dn = some (.dK (nmK (setW rs r.num (r.ws.erase w)))) := fun o => by rw [upd_ne hB3.nd]; exact hB3.hn
        walk_at "y"
        refine x_dpop1 (x_fld (x_var rfl ⟨b, _, dx, _, _, rfl, hob4 _, rc.cl, rc.nN, fl_num _ _ _, dn, rfl, isD_of (hdn4 _), x_var rfl ⟨_, .inr (ST (minT w)), _, hdn4 _, rfl, hgn, ?_⟩⟩))
        walk_at "y"
        have hdw5 : dropK (wdK (setW rs r.num (r.ws.erase w))) (.inl (r.num : Int)) = wdK (keepR (setW rs r.num (r.ws.erase w))) := by
          rw [drop_wd]
          congr 1
          exact keep_eq ok hr hemp
        have hdn5 : dropK (nmK (setW rs r.num (r.ws.erase w))) (.inr (ST (minT w))) = nmK (keepR (setW rs r.num (r.ws.erase w))) := by
          have := drop_nm ok2 hmem
          have hf' : (⟨r.form, r.num, r.at_, r.ws.erase w⟩ : Ring).form = minT w := hf
          rw [hf'] at this
          rw [this]
          congr 1
          exact keep_eq ok hr hemp
        rw [hdw5, hdn5]
        refine q _ ⟨⟨dx, by rw [upd_ne n1, upd_ne n2]; exact hob⟩, upd_same, by rw [upd_ne hB3.nd.symm, upd_same], fun s hs => ?_, hB3.nd, hB3.na.filter _⟩ (hF3.trs ((Fr.put (by simp [feet])).trs (Fr.put (by simp [feet]))))
        have hs0 := (List.mem_filter.mp hs).1
        obtain ⟨a1, a2, a3⟩ := at_ne hB3 hs0
        rw [upd_ne a2, upd_ne a3]
        exact hB3.hl s hs0
      · walk_at "y"
        have hk : keepR (setW rs r.num (r.ws.erase w)) = setW rs r.num (r.ws.erase w) := by
          unfold keepR
          refine List.filter_eq_self.mpr fun s hs => ?_
          obtain ⟨s0, hs0, _, _, _, h4⟩ := setW_mem hs
          rw [h4]
          split
          · simpa using hemp
          · simpa using ok.ne s0 hs0
        refine q _ ?_ hF3
        rw [hk]
        exact hB3
    · by_cases hex : ∃ r ∈ rs, r.form = minT w
      · obtain ⟨r, hr, hf⟩ := hex
        refine x_dnotin (x_var rfl (x_bnum (rc := rc) hb1 (tv0 rfl) ⟨dn, _, rfl, g_num hb1 ok hr hf, ?_⟩))
        walk_at "y"
        refine x_if0 rfl ?_
        walk_at "y"
        refine xd_get (x_bwor (rc := rc) hb1 (tv0 rfl) (xd_get (x_bnum (rc := rc) hb1 (tv0 rfl) (x_var rfl ⟨dn, _, rfl, g_num hb1 ok hr hf, dw, _, rfl, g_wor hb1 ok hr, ?_⟩))))
        refine x_notinTx (SqL.of (hb1.hl r hr)) ?_
        rw [decide_eq_false (hno r hr hf)]
        walk_at "y"
        try with_reducible refine x_it rfl ?_
        exact x_raise (q _ e1)
      · have hno2 : ∀ r ∈ rs, r.form ≠ minT w := fun r hr z => hex ⟨r, hr, z⟩
        refine x_dnotin (x_var rfl (x_bnum (rc := rc) hb1 (tv0 rfl) ⟨dn, _, rfl, g_num0 hb1 hno2, ?_⟩))
        walk_at "y"
        refine x_it rfl ?_
        walk_at "y"
        exact x_raise (q _ e1)
  · show t_k12_Rings_take g E (D0 Q) [some (.ref b), some v, none, none] H
    unfold t_k12_Rings_take
    walk_at "y"
    exact c_least_formN hv q
/-- the account goes on -/
theorem BookOk.take {rs : List Ring} {nx : Nat} (ok : BookOk rs nx) (n : Nat) (w : List Nat) {r : Ring} (hr : r ∈ rs) (hn : r.num = n) : BookOk (keepR (setW rs n (r.ws.erase w))) nx := by
  have mem : ∀ s ∈ keepR (setW rs n (r.ws.erase w)), ∃ s0 ∈ rs, s.form = s0.form ∧ s.num = s0.num ∧ s.ws ≠ [] ∧ ∀ v ∈ s.ws, v ∈ s0.ws := fun s hs => by
    obtain ⟨h1, h2⟩ := List.mem_filter.mp hs
    obtain ⟨s0, hs0, k1, k2, k3, k4⟩ := setW_mem h1
    refine ⟨s0, hs0, k1, k2, fun z => by rw [z] at h2; simp at h2, fun v hv => ?_⟩
    rw [k4] at hv
    split at hv
    · rename_i c
      have : s0 = r := ring_one ok.up hs0 hr (c.trans hn.symm)
      subst this
      exact List.mem_of_mem_erase hv
    · exact hv
  have ok2 := setW_up (n := n) (l := r.ws.erase w) ok.to
  refine ⟨ok2.up.filter _, ok2.nf.filter _, fun s hs => ?_, fun s hs => ?_, fun s hs v hv => ?_⟩
  · obtain ⟨s0, h0, _, h2, _⟩ := mem s hs
    rw [h2]
    exact ok.lt s0 h0
  · obtain ⟨s0, h0, _, _, h3, _⟩ := mem s hs
    exact h3
  · obtain ⟨s0, h0, h1, _, _, h4⟩ := mem s hs
    rw [h1]
    exact ok.wf s0 h0 v (h4 v hv)
/-! ### steps of the book's defs -/
theorem x_neB {a b : Bool} (q : Q (.bl (!decide (a = b))) H) : uNe K (.bl a) (.bl b) H Q := .inl ⟨rfl, by
  rw [show decide (V.bl a = V.bl b) = decide (a = b) by cases a <;> cases b <;> rfl]
  exact q⟩
theorem c_ring_init (rc : RC g) {b dx : Addr} (h : H b = some (.ins g.cRings dx [])) (q : ∀ dn dw H', H dn = none → H dw = none → BookAt g H' b dn dw [] 0 → Fr [b] H H' → Q .non H') : sp_Rings___init__ g [.ref b] H Q E := ⟨rc, b, dx, rfl, h, q⟩
theorem x_make {σ : L2.St} {C : Addr} {sp : Sp} (q : ∀ x dx, H x = none → H dx = none → dx ≠ x → sp [.ref x] (upd (upd H dx (.own x)) x (.ins C dx [])) (fun v H2 => v = .non ∧ Q (.ref x) H2) E) : tMake C sp [] E tNil σ H Q := q
theorem no_m (m : Str) (h1 : ¬ m = sNum) (h2 : ¬ m = sWor) (h3 : ¬ m = sNex) {b dn dw : Addr} {rs : List Ring} {nx : Nat} (hb : BookAt g H b dn dw rs nx) : ∃ dx, H b = some (.ins g.cRings dx (flds dn dw (nx : Int))) ∧ (flds dn dw (nx : Int)).lookup m = none :=
  hb.ob.elim fun dx o => ⟨dx, o, fl_no h1 h2 h3 _ _ _⟩
/-- a method of the book -/
theorem x_bm_ {σ : L2.St} {m : Str} {sp : Sp} {ta : TE} {t : TA} (h1 : ¬ m = sNum) (h2 : ¬ m = sWor) (h3 : ¬ m = sNex) {b dn dw : Addr} {rs : List Ring} {nx : Nat} (hb : BookAt g H b dn dw rs nx) (h : ∀ P : VK, P (.ref b) H → ta σ H P) (q : t σ H fun vs H2 => sp (.ref b :: vs) H2 Q E) : tMeth g.cRings m sp [] E ta t σ H Q := by
  obtain ⟨dx, o, l⟩ := no_m m h1 h2 h3 hb
  exact x_meth (h _ ⟨b, dx, _, rfl, o, l, q⟩)
theorem x_bmV {σ : L2.St} {m : Str} {sp : Sp} {Es : L2.St → XK} {ta : TE} {t : TA} (h1 : ¬ m = sNum) (h2 : ¬ m = sWor) (h3 : ¬ m = sNex) {b dn dw : Addr} {rs : List Ring} {nx : Nat} (hb : BookAt g H b dn dw rs nx) (h : ∀ P : VK, P (.ref b) H → ta σ H P) (q : t σ H fun vs H2 => sp (.ref b :: vs) H2 Q (Es σ)) : tMethV g.cRings m sp Es ta t σ H Q := by
  obtain ⟨dx, o, l⟩ := no_m m h1 h2 h3 hb
  exact x_methV (h _ ⟨b, dx, _, rfl, o, l, q⟩)
theorem x_dget2N {σ : L2.St} {td ty tx : TE} (q : td σ H fun x H1 => ∃ a, x = .ref a ∧ IsD H1 a ∧ ty σ H1 fun y H2 => tx σ H2 fun z H3 => (∃ o, DGet H3 a y o ∧ Q (o.getD z) H3) ∨ (∃ kvs, y = .non ∧ Rd H3 a (.dK kvs) ∧ Q z H3)) : tDGet2N td ty tx σ H Q := q
/-- [w for w in .. if ..] of texts -/
theorem x_lcTx' {σ : L2.St} {tt : TT} {ws : List Nat} {j : Nat} {a : Addr} {ls : List (List Nat)} (hx : SqL K H a (tx ls)) (P : List Nat → Bool) (hn : ls.length ≤ 16000000) (hw : ∀ x, wipe ((wipe σ ws).set j (some x)) ws = wipe σ ws) (hj : ∀ x, ((wipe σ ws).set j (some x))[j]? = some (some x))
    (hb : ∀ (w : List Nat) (H' : Hp), w ∈ ls → Ex H H' → ∀ R : Bool → Hp → Prop, (∀ H3, Ex H' H3 → R (P w) H3) → tt ((wipe σ ws).set j (some (.str (ST w)))) H' R)
    (q : ∀ (p : Addr) (H' : Hp), H p = none → Ex H H' → H' p = some (.lst (tx (ls.filter P))) → Q (.ref p) H') : lcGo (Itl K a) (gName j) tt (tVar j) ws σ H Q := by
  refine x_lcL hx (fun v => match v with | .str z => if P z.cps.toList = true then some v else none | _ => none) (by rw [tx_len]; exact hn) hw (fun x H' hx' e R R0 hR hR0 => ?_) fun p H' np e hp => ?_
  · obtain ⟨w, hw', rfl⟩ := List.mem_map.mp hx'
    refine hb w H' hw' e _ fun H3 e3 => ?_
    cases hP : P w with
    | true => exact x_it rfl (x_var (hj _) (hR _ _ (if_pos hP) e3))
    | false => exact x_if0 rfl (hR0 (if_neg (by rw [ST_list, hP]; decide)) _ e3)
  · rw [filt_tx P _ (fun z => rfl)] at hp
    exact q p H' np e hp
/-! ### others -/
def sp_k12_Rings_others (g : G) : Sp := fun vs H Q E => RC g ∧ ((∃ b dn dw rs nx w, vs = [.ref b, .str (ST w)] ∧ Word w ∧ BookAt g H b dn dw rs nx ∧ BookOk rs nx ∧ (∀ r ∈ rs, r.ws.length ≤ 1000) ∧
    ((∃ r ∈ rs, r.form = minT w ∧ ∀ p H', H p = none → Ex H H' → H' p = some (.lst (tx (r.ws.filter fun v => !decide (v = w)))) → Q (.ref p) H') ∨
     ((∀ r ∈ rs, r.form ≠ minT w) ∧ ∀ p H', H p = none → Ex H H' → H' p = some (.lst (tx [])) → Q (.ref p) H'))) ∨
  (∃ b v dn dw rs nx, vs = [.ref b, v] ∧ BookAt g H b dn dw rs nx ∧ IsW g.K H v false ∧ ∀ H', Ex H H' → E (.ref g.cNoWord) none H'))
/-- Rings.others: slots self, word, number, one -/
def t_k12_Rings_others (g : G) (E : XK) : TS :=
  tSeq (tAsg (tMeth g.cRings "ring_of" (sp_Rings_ring_of g) [] E (tVar 0) (tCons (tVar 1) tNil)) (gName 2))
    (tRet (tLc (iU g.K (tDGet2N (tFld g.K (tVar 0) "words") (tVar 2) (tLst tNil))) (gName 3) (tTest (tOp (uNe g.K) (tVar 3) (tVar 1))) (tVar 3) [3]))
theorem p_k12_Rings_others (h : sp_k12_Rings_others g vs H Q E) : t_k12_Rings_others g E (D0 Q) (st0 4 vs) H := by
  obtain ⟨rc, h⟩ := h
  rcases h with ⟨b, dn, dw, rs, nx, w, rfl, hw, hb, ok, hl2, hor⟩ | ⟨b, v, dn, dw, rs, nx, rfl, hb, hv, q⟩
  · show t_k12_Rings_others g E (D0 Q) [some (.ref b), some (.str (ST w)), none, none] H
    unfold t_k12_Rings_others
    walk_at "y"
    refine x_bm_ (by decide +kernel) (by decide +kernel) (by decide +kernel) hb (tv0 rfl) ?_
    walk_at "y"
    rcases hor with ⟨r, hr, hf, q⟩ | ⟨hno, q⟩
    · refine ⟨rc, .inl ⟨b, dn, dw, rs, nx, w, rfl, hw, hb, ok, .inl ⟨r, hr, hf, fun H1 e1 => ?_⟩⟩⟩
      have hb1 := hb.ex e1
      have := hl2 r hr
      walk_at "y"
      refine x_dget2N (x_bwor (rc := rc) hb1 (tv0 rfl) ⟨dw, rfl, isD_of hb1.hw, ?_⟩)
      walk_at "y"
      rename_i p0 H2 np0 e2 hp0
      have hb2 := hb1.ex e2
      refine .inl ⟨_, g_wor hb2 ok hr, ?_⟩
      refine x_uL (SqL.of (hb2.hl r hr)) (x_lcTx' (SqL.of (hb2.hl r hr)) (fun v => !decide (v = w)) (by omega) (fun _ => rfl) (fun _ => rfl) (fun v H' hv e R hR => ?_) fun p H' np e hp => ?_)
      · walk_at "y"
        exact hR _ Ex.rfl'
      · exact q p H' (fresh_back (Ex.trs e1 e2) np) (Ex.trs e1 (Ex.trs e2 e)) hp
    · refine ⟨rc, .inl ⟨b, dn, dw, rs, nx, w, rfl, hw, hb, ok, .inr ⟨hno, fun H1 e1 => ?_⟩⟩⟩
      have hb1 := hb.ex e1
      walk_at "y"
      refine x_dget2N (x_bwor (rc := rc) hb1 (tv0 rfl) ⟨dw, rfl, isD_of hb1.hw, ?_⟩)
      walk_at "y"
      rename_i p0 H2 np0 e2 hp0
      have hb2 := hb1.ex e2
      refine .inr ⟨_, rfl, .inl hb2.hw, ?_⟩
      refine x_uL (xs := tx []) (SqL.of hp0) (x_lcTx' (ls := []) (SqL.of hp0) (fun v => !decide (v = w)) (by simp) (fun _ => rfl) (fun _ => rfl) (fun v H' hv e R hR => by simp at hv) fun p H' np e hp => ?_)
      exact q p H' (fresh_back (Ex.trs e1 e2) np) (Ex.trs e1 (Ex.trs e2 e)) hp
  · show t_k12_Rings_others g E (D0 Q) [some (.ref b), some v, none, none] H
    unfold t_k12_Rings_others
    walk_at "y"
    refine x_bm_ (by decide +kernel) (by decide +kernel) (by decide +kernel) hb (tv0 rfl) ?_
    walk_at "y"
    exact ⟨rc, .inr ⟨b, v, dn, dw, rs, nx, rfl, hb, hv, q⟩⟩
/-! ### members -/
def sp_k12_Rings_members (g : G) : Sp := fun vs H Q E => RC g ∧ ∃ b dn dw rs nx n, vs = [.ref b, .int n] ∧ BookAt g H b dn dw rs nx ∧ BookOk rs nx ∧
    ((∃ r ∈ rs, (r.num : Int) = n ∧ ∀ p H', H p = none → Ex H H' → H' p = some (.lst (tx r.ws)) → Q (.ref p) H') ∨ ((∀ r ∈ rs, (r.num : Int) ≠ n) ∧ ∀ H', Ex H H' → E (.ref g.cNoRing) none H'))
/-- Rings.members: slots self, number -/
def t_k12_Rings_members (g : G) (E : XK) : TS :=
  tSeq (tIfS (tB (tDNotIn (tVar 1) (tFld g.K (tVar 0) "words"))) (tRaise g.cNoRing E) tNext)
    (tRet (tCB (rListU g.K) (tCons (tDGet (tFld g.K (tVar 0) "words") (tVar 1)) tNil)))
theorem p_k12_Rings_members (h : sp_k12_Rings_members g vs H Q E) : t_k12_Rings_members g E (D0 Q) (st0 2 vs) H := by
  obtain ⟨rc, b, dn, dw, rs, nx, n, rfl, hb, ok, hor⟩ := h
  show t_k12_Rings_members g E (D0 Q) [some (.ref b), some (.int n)] H
  unfold t_k12_Rings_members
  walk_at "y"
  rcases hor with ⟨r, hr, rfl, q⟩ | ⟨hno, q⟩
  · refine x_dnotin (x_var rfl (x_bwor (rc := rc) hb (tv0 rfl) ⟨dw, _, rfl, g_wor hb ok hr, ?_⟩))
    walk_at "y"
    refine x_if0 rfl ?_
    walk_at "y"
    refine xd_get (x_bwor (rc := rc) hb (tv0 rfl) (x_var rfl ⟨dw, _, rfl, g_wor hb ok hr, ?_⟩))
    walk_at "y"
    exact x_listL (SqL.of (hb.hl r hr)) fun p H' np e hp => q p H' np e hp
  · refine x_dnotin (x_var rfl (x_bwor (rc := rc) hb (tv0 rfl) ⟨dw, _, rfl, g_wor0 hb hno, ?_⟩))
    walk_at "y"
    refine x_it rfl ?_
    walk_at "y"
    exact x_raise (q _ Ex.rfl')
theorem len_k12_Rings_take (h : sp_k12_Rings_take g vs H Q E) : vs.length = 2 := by
  obtain ⟨_, ⟨_, _, _, _, _, _, rfl, _⟩ | ⟨_, _, rfl, _⟩⟩ := h <;> rfl
theorem len_k12_Rings_others (h : sp_k12_Rings_others g vs H Q E) : vs.length = 2 := by
  obtain ⟨_, ⟨_, _, _, _, _, _, rfl, _⟩ | ⟨_, _, _, _, _, _, rfl, _⟩⟩ := h <;> rfl
theorem len_k12_Rings_members (h : sp_k12_Rings_members g vs H Q E) : vs.length = 2 := by
  obtain ⟨_, _, _, _, _, _, _, rfl, _⟩ := h
  rfl
end
end RW

/-! M15: the law's own account, and how the book goes with it. -/
namespace RW
abbrev Own := List (List Nat × Nat)
/-- the book's rings are what the account says -/
structure Link (own : Own) (rs : List Ring) : Prop where
  ws : ∀ r ∈ rs, r.ws = (own.filter fun e => decide (e.2 = r.num)).map (·.1)
  num : ∀ e ∈ own, ∃ r ∈ rs, r.num = e.2
/-- the number of a word's ring -/
def ringOf (own : Own) (w : List Nat) : Option Nat := (own.find? fun e => decide (minT e.1 = minT w)).map (·.2)
theorem Link.nil : Link [] [] := ⟨fun r h => by simp at h, fun e h => by simp at h⟩
theorem Link.mem {own : Own} {rs : List Ring} (lk : Link own rs) {e : List Nat × Nat} (he : e ∈ own) {r : Ring} (hr : r ∈ rs) (hn : r.num = e.2) : e.1 ∈ r.ws := by
  rw [lk.ws r hr]
  exact List.mem_map.mpr ⟨e, List.mem_filter.mpr ⟨he, decide_eq_true hn.symm⟩, rfl⟩
theorem Link.of {own : Own} {rs : List Ring} (lk : Link own rs) {r : Ring} (hr : r ∈ rs) {w : List Nat} (hw : w ∈ r.ws) : (w, r.num) ∈ own := by
  rw [lk.ws r hr] at hw
  obtain ⟨e, he, rfl⟩ := List.mem_map.mp hw
  obtain ⟨h1, h2⟩ := List.mem_filter.mp he
  have h2 := of_decide_eq_true h2
  have : e = (e.1, r.num) := by rw [← h2]
  rw [← this]
  exact h1
theorem ringOf_some {own : Own} {rs : List Ring} {nx : Nat} (ok : BookOk rs nx) (lk : Link own rs) {r : Ring} (hr : r ∈ rs) {w : List Nat} (hf : r.form = minT w) : ringOf own w = some r.num := by
  unfold ringOf
  cases h : own.find? fun e => decide (minT e.1 = minT w) with
  | none =>
    exfalso
    have hne := ok.ne r hr
    cases hws : r.ws with
    | nil => exact hne hws
    | cons v t =>
      have hv : v ∈ r.ws := by rw [hws]; exact List.mem_cons_self
      have h1 := List.find?_eq_none.mp h _ (lk.of hr hv)
      exact h1 (decide_eq_true (by rw [(ok.wf r hr v hv).2, hf]))
  | some e =>
    have h1 : minT e.1 = minT w := by simpa using List.find?_some h
    have he := List.mem_of_find?_eq_some h
    obtain ⟨r', hr', hn'⟩ := lk.num e he
    have h2 := (ok.wf r' hr' _ (lk.mem he hr' hn')).2
    have : r' = r := form_one ok.nf hr' hr (by rw [← h2, h1, hf])
    subst this
    exact congrArg some hn'.symm
theorem ringOf_none {own : Own} {rs : List Ring} {nx : Nat} (ok : BookOk rs nx) (lk : Link own rs) {w : List Nat} (hno : ∀ r ∈ rs, r.form ≠ minT w) : ringOf own w = none := by
  unfold ringOf
  cases h : own.find? fun e => decide (minT e.1 = minT w) with
  | none => rfl
  | some e =>
    exfalso
    have h1 : minT e.1 = minT w := by simpa using List.find?_some h
    have he := List.mem_of_find?_eq_some h
    obtain ⟨r', hr', hn'⟩ := lk.num e he
    have h2 := (ok.wf r' hr' _ (lk.mem he hr' hn')).2
    exact hno r' hr' (by rw [← h2, h1])
/-- whether a word is in -/
def isIn (own : Own) (w : List Nat) : Bool := own.any fun e => decide (e.1 = w)
theorem isIn_iff {own : Own} {w : List Nat} : isIn own w = true ↔ ∃ n, (w, n) ∈ own := by
  unfold isIn
  rw [List.any_eq_true]
  constructor
  · rintro ⟨e, he, h⟩
    have h := of_decide_eq_true h
    exact ⟨e.2, by rw [← h]; exact he⟩
  · rintro ⟨n, h⟩
    exact ⟨_, h, decide_eq_true rfl⟩
theorem isIn_ring {own : Own} {rs : List Ring} {nx : Nat} (ok : BookOk rs nx) (lk : Link own rs) {w : List Nat} : isIn own w = true ↔ ∃ r ∈ rs, r.form = minT w ∧ w ∈ r.ws := by
  rw [isIn_iff]
  constructor
  · rintro ⟨n, h⟩
    obtain ⟨r, hr, hn⟩ := lk.num _ h
    have hw := lk.mem h hr hn
    exact ⟨r, hr, (ok.wf r hr _ hw).2.symm, hw⟩
  · rintro ⟨r, hr, _, hw⟩
    exact ⟨r.num, lk.of hr hw⟩
/-! ### the account goes on -/
theorem Link.add {own : Own} {rs : List Ring} (lk : Link own rs) {r : Ring} (hr : r ∈ rs) (w : List Nat) : Link (own ++ [(w, r.num)]) (addTo rs r.num w) := by
  refine ⟨fun s hs => ?_, fun e he => ?_⟩
  · unfold addTo at hs
    obtain ⟨s0, h0, rfl⟩ := List.mem_map.mp hs
    show (if s0.num = r.num then s0.ws ++ [w] else s0.ws) = _
    rw [List.filter_append, List.map_append, ← lk.ws s0 h0]
    by_cases c : s0.num = r.num
    · rw [if_pos c, List.filter_cons_of_pos (by simp [c]), List.filter_nil]
      rfl
    · rw [if_neg c, List.filter_cons_of_neg (by simp; exact fun h => c h.symm), List.filter_nil, List.map_nil, List.append_nil]
  · have hmem : ∀ s ∈ rs, ∃ s' ∈ addTo rs r.num w, s'.num = s.num := fun s hs => ⟨_, List.mem_map.mpr ⟨s, hs, rfl⟩, rfl⟩
    rcases List.mem_append.mp he with he | he
    · obtain ⟨s, hs, hn⟩ := lk.num e he
      obtain ⟨s', h1, h2⟩ := hmem s hs
      exact ⟨s', h1, h2.trans hn⟩
    · obtain rfl := List.mem_singleton.mp he
      exact hmem r hr
theorem Link.new {own : Own} {rs : List Ring} {nx a : Nat} (lk : Link own rs) (lt : ∀ r ∈ rs, r.num < nx) (f w : List Nat) : Link (own ++ [(w, nx)]) (rs ++ [⟨f, nx, a, [w]⟩]) := by
  have hno : (own.filter fun e => decide (e.2 = nx)) = [] := List.filter_eq_nil_iff.mpr fun e he => by
    obtain ⟨r, hr, hn⟩ := lk.num e he
    have := lt r hr
    simp
    omega
  refine ⟨fun s hs => ?_, fun e he => ?_⟩
  · rw [List.filter_append, List.map_append]
    rcases List.mem_append.mp hs with hs | hs
    · have := lt s hs
      rw [← lk.ws s hs, List.filter_cons_of_neg (by simp; omega), List.filter_nil, List.map_nil, List.append_nil]
    · obtain rfl := List.mem_singleton.mp hs
      rw [hno, List.filter_cons_of_pos (by simp), List.filter_nil]
      rfl
  · rcases List.mem_append.mp he with he | he
    · obtain ⟨s, hs, hn⟩ := lk.num e he
      exact ⟨s, List.mem_append_left _ hs, hn⟩
    · obtain rfl := List.mem_singleton.mp he
      exact ⟨_, List.mem_append_right _ (List.mem_singleton.mpr rfl), rfl⟩
theorem er_filter (w : List Nat) (n m : Nat) : ∀ own : Own, ((own.erase (w, n)).filter fun e => decide (e.2 = m)).map (·.1) = if m = n then ((own.filter fun e => decide (e.2 = m)).map (·.1)).erase w else (own.filter fun e => decide (e.2 = m)).map (·.1)
  | [] => by
    split <;> rfl
  | e :: own => by
    have ih := er_filter w n m own
    by_cases c : e = (w, n)
    · subst c
      rw [List.erase_cons_head]
      by_cases d : m = n
      · subst d
        rw [if_pos rfl, List.filter_cons_of_pos (by simp), List.map_cons, List.erase_cons_head]
      · rw [if_neg d, List.filter_cons_of_neg (by simp; exact fun h => d h.symm)]
    · rw [List.erase_cons_tail (by simpa using c)]
      by_cases d : e.2 = m
      · rw [List.filter_cons_of_pos (by simp [d]), List.filter_cons_of_pos (by simp [d]), List.map_cons, List.map_cons, ih]
        by_cases f : m = n
        · rw [if_pos f, if_pos f]
          have : e.1 ≠ w := fun z => c (by rw [← z, ← f, ← d])
          rw [List.erase_cons_tail (by simpa using this)]
        · rw [if_neg f, if_neg f]
      · rw [List.filter_cons_of_neg (by simp [d]), List.filter_cons_of_neg (by simp [d]), ih]
theorem Link.take {own : Own} {rs : List Ring} (lk : Link own rs) (up : rs.Pairwise fun a b => a.num < b.num) {r : Ring} (hr : r ∈ rs) (w : List Nat) : Link (own.erase (w, r.num)) (keepR (setW rs r.num (r.ws.erase w))) := by
  have hws : ∀ s0 ∈ rs, (if s0.num = r.num then r.ws.erase w else s0.ws) = ((own.erase (w, r.num)).filter fun e => decide (e.2 = s0.num)).map (·.1) := fun s0 h0 => by
    rw [er_filter]
    by_cases c : s0.num = r.num
    · have := ring_one up h0 hr c
      subst this
      rw [if_pos rfl, if_pos rfl, ← lk.ws s0 h0]
    · rw [if_neg c, if_neg c, ← lk.ws s0 h0]
  refine ⟨fun s hs => ?_, fun e he => ?_⟩
  · obtain ⟨s0, h0, _, h2, _, h4⟩ := setW_mem (List.mem_filter.mp hs).1
    rw [h4, h2]
    exact hws s0 h0
  · obtain ⟨s0, h0, hn⟩ := lk.num e (List.mem_of_mem_erase he)
    refine ⟨⟨s0.form, s0.num, s0.at_, if s0.num = r.num then r.ws.erase w else s0.ws⟩, List.mem_filter.mpr ⟨List.mem_map.mpr ⟨s0, h0, rfl⟩, ?_⟩, hn⟩
    have h1 : e.1 ∈ (if s0.num = r.num then r.ws.erase w else s0.ws) := by
      rw [hws s0 h0]
      exact List.mem_map.mpr ⟨e, List.mem_filter.mpr ⟨he, decide_eq_true hn.symm⟩, rfl⟩
    show (!(if s0.num = r.num then r.ws.erase w else s0.ws).isEmpty) = true
    cases h2 : (if s0.num = r.num then r.ws.erase w else s0.ws) with
    | nil => rw [h2] at h1; simp at h1
    | cons _ _ => rfl
theorem ind_sum (n : Nat) : ∀ {rs : List Ring}, rs.Pairwise (fun a b => a.num < b.num) → (rs.map fun r => if n = r.num then 1 else 0).sum = if ∃ r ∈ rs, r.num = n then 1 else 0
  | [], _ => by simp
  | r :: rs, h => by
    have ih := ind_sum n (List.pairwise_cons.mp h).2
    rw [List.map_cons, List.sum_cons, ih]
    by_cases c : n = r.num
    · have hno : ¬ ∃ s ∈ rs, s.num = n := by
        rintro ⟨s, hs, e⟩
        have := (List.pairwise_cons.mp h).1 s hs
        omega
      rw [if_pos c, if_neg hno, if_pos ⟨r, List.mem_cons_self, c.symm⟩]
    · rw [if_neg c]
      by_cases d : ∃ s ∈ rs, s.num = n
      · obtain ⟨s, hs, e⟩ := d
        rw [if_pos ⟨s, hs, e⟩, if_pos ⟨s, List.mem_cons_of_mem _ hs, e⟩]
      · rw [if_neg d, if_neg]
        rintro ⟨s, hs, e⟩
        rcases List.mem_cons.mp hs with rfl | hs
        · exact c e.symm
        · exact d ⟨s, hs, e⟩
theorem sum_add (rs : List Ring) (f g : Ring → Nat) : (rs.map fun r => f r + g r).sum = (rs.map f).sum + (rs.map g).sum := by
  induction rs with
  | nil => rfl
  | cons r rs ih => rw [List.map_cons, List.sum_cons, ih, List.map_cons, List.sum_cons, List.map_cons, List.sum_cons]; omega
theorem filter_total {rs : List Ring} (up : rs.Pairwise fun a b => a.num < b.num) : ∀ own : Own, (∀ e ∈ own, ∃ r ∈ rs, r.num = e.2) → (rs.map fun r => (own.filter fun e => decide (e.2 = r.num)).length).sum = own.length
  | [], _ => by
    induction rs with
    | nil => rfl
    | cons r rs ih => rw [List.map_cons, List.sum_cons, ih (List.pairwise_cons.mp up).2 fun e he => by simp at he]; rfl
  | e :: own, h => by
    have ih := filter_total up own fun f hf => h f (List.mem_cons_of_mem _ hf)
    have e1 : (fun r : Ring => ((e :: own).filter fun e => decide (e.2 = r.num)).length) = fun r => (if e.2 = r.num then 1 else 0) + (own.filter fun e => decide (e.2 = r.num)).length := by
      funext r
      by_cases c : e.2 = r.num
      · rw [List.filter_cons_of_pos (by simp [c]), if_pos c, List.length_cons, Nat.add_comm]
      · rw [List.filter_cons_of_neg (by simp [c]), if_neg c, Nat.zero_add]
    rw [e1, sum_add, ih, ind_sum e.2 up, if_pos (h e List.mem_cons_self), List.length_cons, Nat.add_comm]
theorem Link.total {own : Own} {rs : List Ring} (lk : Link own rs) (up : rs.Pairwise fun a b => a.num < b.num) : total rs = own.length := by
  rw [← filter_total up own lk.num]
  unfold RW.total
  congr 1
  exact List.map_congr_left fun r hr => by rw [lk.ws r hr, List.length_map]
theorem Link.small {own : Own} {rs : List Ring} {nx : Nat} (lk : Link own rs) (ok : BookOk rs nx) : rs.length ≤ own.length ∧ ∀ r ∈ rs, r.ws.length ≤ own.length := by
  refine ⟨?_, fun r hr => ?_⟩
  · rw [← lk.total ok.up]
    unfold RW.total
    have : ∀ l : List Ring, (∀ r ∈ l, r.ws ≠ []) → l.length ≤ (l.map fun r => r.ws.length).sum := by
      intro l
      induction l with
      | nil => intro _; exact Nat.le_refl _
      | cons r l ih =>
        intro h
        have h1 := ih fun s hs => h s (List.mem_cons_of_mem _ hs)
        have h2 : 1 ≤ r.ws.length := List.length_pos_iff.mpr (h r List.mem_cons_self)
        rw [List.length_cons, List.map_cons, List.sum_cons]
        omega
    exact this rs ok.ne
  · rw [lk.ws r hr, List.length_map]
    exact List.length_filter_le _ _
/-! ### what a deed tells -/
inductive Res where
  | num (n : Nat)
  | no
  | mark (i : Nat)
  | ws (l : List (List Nat))
def dueF (own : Own) (nx way : Nat) (w : List Nat) : Res × Own × Nat :=
  match way with
  | 0 => if isIn own w then (.mark 5, own, nx) else match ringOf own w with
    | some n => (.num n, own ++ [(w, n)], nx)
    | none => (.num nx, own ++ [(w, nx)], nx + 1)
  | 1 => if isIn own w then match ringOf own w with
      | some n => (.num n, own.erase (w, n), nx)
      | none => (.no, own, nx)
    else (.mark 4, own, nx)
  | 2 => (match ringOf own w with
    | some n => .num n
    | none => .no, own, nx)
  | _ => (.ws (match ringOf own w with
    | some n => (own.filter fun e => decide (e.2 = n) && !decide (e.1 = w)).map (·.1)
    | none => []), own, nx)
theorem others_eq {own : Own} {rs : List Ring} (lk : Link own rs) {r : Ring} (hr : r ∈ rs) (w : List Nat) : (own.filter fun e => decide (e.2 = r.num) && !decide (e.1 = w)).map (·.1) = r.ws.filter fun v => !decide (v = w) := by
  rw [lk.ws r hr, List.filter_map, List.filter_filter]
  congr 1
  apply List.filter_congr
  intro e _
  show _ = ((!decide (e.1 = w)) && decide (e.2 = r.num))
  rw [Bool.and_comm]
end RW

/-! M14: turnings of turnings, roots of turnings, the longest border. -/
namespace RW
theorem turnL_length {l : List Nat} {p : Nat} : (turnL l p).length = l.length := by
  unfold turnL
  rw [List.length_append, List.length_drop, List.length_take]
  omega
theorem cyc_mod (l : List Nat) (t : Nat) : cyc l (t % l.length) = cyc l t := by
  unfold cyc
  rw [Nat.mod_mod]
theorem turn_turn {l : List Nat} {p k : Nat} (hp : p < l.length) (hk : k < l.length) : turnL (turnL l p) k = turnL l ((p + k) % l.length) := by
  have hl : (turnL l p).length = l.length := turnL_length
  have hn : 0 < l.length := by omega
  rw [turnL_fl (l := turnL l p) (by rw [hl]; exact hk), turnL_fl (l := l) (Nat.mod_lt _ hn), hl, fl_eq]
  intro t ht
  rw [cyc_turn hp, ← cyc_mod l (p + (k + t)), ← cyc_mod l ((p + k) % l.length + t), Nat.mod_add_mod, Nat.add_assoc]
theorem turns_same {l : List Nat} {p : Nat} (hp : p < l.length) {y : List Nat} : y ∈ turnsL (turnL l p) ↔ y ∈ turnsL l := by
  have hn : 0 < l.length := by omega
  rw [turnsL_mem, turnsL_mem]
  have hl : (turnL l p).length = l.length := turnL_length
  constructor
  · rintro ⟨k, hk, rfl⟩
    rw [hl] at hk
    exact ⟨_, Nat.mod_lt _ hn, turn_turn hp hk⟩
  · rintro ⟨q, hq, rfl⟩
    refine ⟨(q + (l.length - p)) % l.length, by rw [hl]; exact Nat.mod_lt _ hn, ?_⟩
    rw [turn_turn hp (Nat.mod_lt _ hn), Nat.add_mod_mod, show p + (q + (l.length - p)) = q + l.length by omega, Nat.add_mod_right, Nat.mod_eq_of_lt hq]
theorem minT_mem {w : List Nat} (h : 0 < w.length) : minT w ∈ turnsL w ∧ ∀ y ∈ turnsL w, ¬ y < minT w := by
  obtain ⟨h1, h2, h3⟩ := fold_pick (turnsL w) w
  refine ⟨?_, fun y hy => List.not_lt.mpr (h3 y hy)⟩
  unfold minT
  rcases h1 with h1 | h1
  · rw [h1]
    exact turnsL_mem.mpr ⟨0, h, (turnL_zero w).symm⟩
  · exact h1
theorem minT_turn {l : List Nat} {p : Nat} (hp : p < l.length) : minT (turnL l p) = minT l := by
  obtain ⟨h1, h2⟩ := minT_mem (w := l) (by omega)
  exact (minT_of ((turns_same hp).mpr h1) fun y hy => h2 y ((turns_same hp).mp hy)).symm
theorem minT_len {w : List Nat} (h : 0 < w.length) : (minT w).length = w.length := turnsL_lens _ (minT_mem h).1
/-- words of one least turning are turnings of each other -/
theorem minT_eq {l m : List Nat} (hl : 0 < l.length) (hm : 0 < m.length) (h : minT l = minT m) : ∃ j, j < l.length ∧ turnL l j = m := by
  have hmm : m ∈ turnsL m := turnsL_mem.mpr ⟨0, hm, (turnL_zero m).symm⟩
  obtain ⟨q, hq, e2⟩ := turnsL_mem.mp (minT_mem hm).1
  have h3 : m ∈ turnsL (minT m) := by
    rw [e2]
    exact (turns_same hq).mpr hmm
  obtain ⟨p, hp, e1⟩ := turnsL_mem.mp (minT_mem hl).1
  rw [← h, e1] at h3
  obtain ⟨j, hj, e⟩ := turnsL_mem.mp ((turns_same hp).mp h3)
  exact ⟨j, hj, e.symm⟩
theorem turn_back {l : List Nat} {j : Nat} (hj : j < l.length) : turnL (turnL l j) ((-(j : Int)) % (l.length : Int)).toNat = l := by
  have hn : 0 < l.length := by omega
  have e : ((-(j : Int)) % (l.length : Int)).toNat = (l.length - j) % l.length := by
    have h1 : (-(j : Int)) % (l.length : Int) = (((l.length - j) % l.length : Nat) : Int) := by
      rw [Int.natCast_emod, show (((l.length - j : Nat)) : Int) = -(j : Int) + (l.length : Int) by omega, Int.add_emod_right]
    rw [h1]
    rfl
  rw [e, turn_turn hj (Nat.mod_lt _ hn), Nat.add_mod_mod, show j + (l.length - j) = l.length by omega, Nat.mod_self, turnL_zero]
/-! ### powers -/
theorem pow_cyc {l : List Nat} {q : Nat} (h1 : 1 ≤ q) (h2 : q ≤ l.length) : IsPow l q ↔ l.length % q = 0 ∧ ∀ t, cyc l (t + q) = cyc l t := by
  have hn : 1 ≤ l.length := by omega
  constructor
  · rintro ⟨hm, hp⟩
    have hper := (pow_per hn h1 h2 hm).mp hp
    have hc : ∀ t, cyc l t = lt_ l (t % q) := fun t => by
      have k1 : t % l.length < l.length := Nat.mod_lt _ (by omega)
      have k3 := per_mul hper (t % l.length / q) (t % l.length % q) (by rw [Nat.mul_comm, Nat.mod_add_div]; exact k1)
      rw [Nat.mul_comm, Nat.mod_add_div, Nat.mod_mod_of_dvd _ (Nat.dvd_of_mod_eq_zero hm)] at k3
      exact k3.symm
    refine ⟨hm, fun t => ?_⟩
    rw [hc, hc t, Nat.add_mod_right]
  · rintro ⟨hm, hc⟩
    refine ⟨hm, (pow_per hn h1 h2 hm).mpr fun t ht => ?_⟩
    rw [← cyc_small (by omega : t < l.length), ← cyc_small ht, hc]
theorem pow_turnL {l : List Nat} {p q : Nat} (hp : p < l.length) (h1 : 1 ≤ q) (h2 : q ≤ l.length) (h : IsPow l q) : IsPow (turnL l p) q := by
  obtain ⟨hm, hc⟩ := (pow_cyc h1 h2).mp h
  refine (pow_cyc h1 (by rw [turnL_length]; exact h2)).mpr ⟨by rw [turnL_length]; exact hm, fun t => ?_⟩
  rw [cyc_turn hp, cyc_turn hp, ← Nat.add_assoc, hc]
theorem root_turn {l : List Nat} {p r : Nat} (hp : p < l.length) (h : RootAt (turnL l p) r) : RootAt l r := by
  obtain ⟨r1, r2, r3, r4⟩ := h
  rw [turnL_length] at r2
  have hn : 0 < l.length := by omega
  have hback : turnL (turnL l p) ((l.length - p) % l.length) = l := by
    rw [turn_turn hp (Nat.mod_lt _ hn), Nat.add_mod_mod, show p + (l.length - p) = l.length by omega, Nat.mod_self, turnL_zero]
  refine ⟨r1, r2, ?_, fun q q1 q2 hq => r4 q q1 q2 (pow_turnL hp q1 (by omega) hq)⟩
  have h5 := pow_turnL (l := turnL l p) (p := (l.length - p) % l.length) (by rw [turnL_length]; exact Nat.mod_lt _ hn) r1 (by rw [turnL_length]; exact r2) r3
  rwa [hback] at h5
/-- a word's root is its own root -/
theorem root_root {l : List Nat} {r s : Nat} (h : RootAt l r) (h2 : RootAt (l.take r) s) : s = r := by
  obtain ⟨r1, r2, r3, r4⟩ := h
  obtain ⟨s1, s2, s3, s4⟩ := h2
  have hul : (l.take r).length = r := by rw [List.length_take]; omega
  rw [hul] at s2
  rcases Nat.lt_or_eq_of_le s2 with c | c
  · exfalso
    obtain ⟨hm, hc⟩ := (pow_cyc r1 r2).mp r3
    obtain ⟨um, uc⟩ := (pow_cyc s1 (by rw [hul]; omega)).mp s3
    rw [hul] at um
    have hlong : ∀ m t, cyc l (t + m * r) = cyc l t := by
      intro m
      induction m with
      | zero => intro t; rw [Nat.zero_mul, Nat.add_zero]
      | succ m ih => intro t; rw [Nat.succ_mul, ← Nat.add_assoc, hc, ih]
    have same : ∀ t, cyc l t = cyc (l.take r) t := fun t => by
      have k1 := hlong (t / r) (t % r)
      rw [Nat.mul_comm, Nat.mod_add_div] at k1
      have hr : t % r < r := Nat.mod_lt _ r1
      rw [k1, cyc_small (by omega)]
      unfold cyc
      rw [hul]
      show lt_ l (t % r) = lt_ (l.take r) (t % r)
      rw [lt_take hr]
    refine r4 s s1 c ((pow_cyc s1 (by omega)).mpr ⟨?_, fun t => by rw [same, same, uc]⟩)
    exact Nat.mod_eq_zero_of_dvd (Nat.dvd_trans (Nat.dvd_of_mod_eq_zero um) (Nat.dvd_of_mod_eq_zero hm))
  · exact c
/-- an early word some times is cut into just these -/
theorem cfl_rep {u : List Nat} (h : Lynd u) (k : Nat) : CFL (rep k u) (List.replicate k u) := by
  refine ⟨rfl, fun w hw => ?_, fun i a b h1 h2 => ?_⟩
  · rw [(List.mem_replicate.mp hw).2]
    exact h
  · have e1 := (List.mem_replicate.mp (List.mem_of_getElem? h1)).2
    have e2 := (List.mem_replicate.mp (List.mem_of_getElem? h2)).2
    rw [e1, e2]
    exact List.lt_irrefl _
/-! ### the longest border -/
theorem borders_mem {l : List Nat} {L : Nat} : L ∈ bordersL l ↔ 1 ≤ L ∧ Bd (lt_ l) l.length L := by
  unfold bordersL
  rw [List.mem_filter, List.mem_range, Bool.and_eq_true, decide_eq_true_eq, decide_eq_true_eq]
  constructor
  · rintro ⟨h, h1, h2⟩
    exact ⟨h1, (bd_iff h).mp h2⟩
  · rintro ⟨h1, h2⟩
    exact ⟨h2.1, h1, (bd_iff h2.1).mpr h2⟩
theorem last_border {l : List Nat} (h : 1 ≤ l.length) {L : Nat} (hL : (0 :: bordersL l).getLast? = some L) : LB (lt_ l) l.length L := by
  have hup : (0 :: bordersL l).Pairwise fun a b => a < b := by
    refine List.pairwise_cons.mpr ⟨fun b hb => by have := (borders_mem.mp hb).1; omega, ?_⟩
    unfold bordersL
    exact List.pairwise_lt_range.filter _
  have hmem : ∀ x ∈ (0 :: bordersL l), x ≤ L := fun x hx => by
    obtain ⟨i, hi, rfl⟩ := List.mem_iff_getElem.mp hx
    rw [List.getLast?_eq_getElem?] at hL
    obtain ⟨hl, e⟩ := List.getElem?_eq_some_iff.mp hL
    by_cases c : i = (0 :: bordersL l).length - 1
    · subst c
      rw [e]
      exact Nat.le_refl _
    · have := List.pairwise_iff_getElem.mp hup i _ hi hl (by omega)
      omega
  refine ⟨?_, fun L' hb => ?_⟩
  · rcases List.mem_cons.mp (List.mem_of_getLast? hL) with rfl | hm
    · exact Bd.zero h
    · exact (borders_mem.mp hm).2
  · rcases Nat.eq_zero_or_pos L' with r | r
    · omega
    · exact hmem L' (List.mem_cons_of_mem _ (borders_mem.mpr ⟨r, hb⟩))
end RW

/-! K12A: the law's own account in the heap: _law_ring, _law_due. -/
namespace RW
open PySem PySem.Spec PyProof.Rows L2
open Evl (Ex ex_l ex_t ex_rd fresh_back)
local macro_rules | `(tactic| walk_at "x") => `(tactic| first
  | ((with_reducible apply x_var); exact rfl)
  | with_reducible refine x_c ?_
  | with_reducible refine x_op ?_
  | with_reducible refine x_un ?_
  | with_reducible refine x_neg ?_
  | with_reducible refine x_addI ?_
  | with_reducible refine x_subI ?_
  | with_reducible refine x_ltI ?_
  | with_reducible refine x_ltS ?_
  | with_reducible refine x_leI ?_
  | with_reducible refine x_leS ?_
  | with_reducible refine x_gtI ?_
  | with_reducible refine x_gtS ?_
  | with_reducible refine x_geI ?_
  | with_reducible refine x_eqI ?_
  | with_reducible refine x_eqS ?_
  | with_reducible refine x_eqB ?_
  | with_reducible refine x_neI ?_
  | with_reducible refine x_neS ?_
  | with_reducible refine x_isN ?_
  | with_reducible refine x_isB ?_
  | with_reducible refine x_isNotN ?_
  | with_reducible refine x_isNotB ?_
  | with_reducible refine x_inS ?_
  | with_reducible refine x_sl ?_
  | with_reducible refine x_part ?_
  | with_reducible refine x_nopart ?_
  | with_reducible refine x_rev ?_
  | with_reducible refine x_nil ?_
  | with_reducible refine x_cons ?_
  | with_reducible refine x_lst0 ?_
  | with_reducible refine x_tup0 ?_
  | with_reducible refine x_call0 ?_
  | with_reducible refine x_callS ?_
  | with_reducible refine x_cb ?_
  | with_reducible refine x_m1 ?_
  | with_reducible refine x_m1s ?_
  | with_reducible refine x_bm ?_
  | with_reducible refine x_bm0 ?_
  | with_reducible refine x_tyS ?_
  | with_reducible refine x_max2 ?_
  | with_reducible refine x_min2 ?_
  | with_reducible refine x_seq ?_
  | with_reducible refine x_asg ?_
  | with_reducible refine x_asgG ?_
  | with_reducible refine x_ret ?_
  | with_reducible refine x_retN ?_
  | with_reducible refine x_if ?_
  | with_reducible refine x_next ?_
  | with_reducible refine x_drop ?_
  | with_reducible refine x_break ?_
  | with_reducible refine x_cont ?_
  | with_reducible refine x_par ?_
  | with_reducible refine x_par2 ?_
  | ((with_reducible apply x_aug); exact rfl)
  | with_reducible refine x_ip ?_
  | with_reducible refine x_test ?_
  | with_reducible refine x_tB ?_
  | with_reducible refine x_bl ?_
  | with_reducible refine x_and ?_
  | with_reducible refine x_or ?_
  | with_reducible refine x_not ?_
  | with_reducible refine x_andV ?_
  | with_reducible refine x_orV ?_
  | with_reducible refine x_notV ?_
  | with_reducible refine x_ifV ?_
  | with_reducible refine x_chain ?_
  | with_reducible refine x_intA ?_
  | with_reducible refine x_strA ?_
  | with_reducible refine x_yes ?_
  | with_reducible refine iteT ?_
  | with_reducible refine iteF ?_
  | with_reducible refine x_forRng1 ?_
  | with_reducible refine x_forRng2 ?_
  | with_reducible refine x_forLst ?_
  | with_reducible refine x_forU ?_
  | with_reducible refine x_lcRng1 ?_
  | with_reducible refine x_lcRng2 ?_
  | with_reducible refine x_lcLst ?_
  | with_reducible refine x_lcU ?_
  | with_reducible refine x_uS ?_
  | with_reducible refine x_gcons ?_
  | with_reducible refine x_gnil ?_
  -- with side conditions
  | ((with_reducible refine x_addS ?hs ?_); (case hs => walk_at "sz"))
  | ((with_reducible refine x_divI ?hs ?ht ?_); (case hs => walk_at "sz"); (case ht => walk_at "sz"))
  | ((with_reducible refine x_modI ?hs ?_); (case hs => walk_at "sz"))
  | ((with_reducible refine x_mulI ?hs ?_); (case hs => walk_at "sz"))
  | ((with_reducible refine x_lenS ?hs ?_); (case hs => walk_at "sz"))
  | ((with_reducible refine x_slSlo ?hs ?_); (case hs => walk_at "sz"))
  | ((with_reducible refine x_slShi ?hs ?_); (case hs => walk_at "sz"))
  | ((with_reducible refine x_slSlohi ?hs ?_); (case hs => walk_at "sz"))
  | ((with_reducible refine x_slShiNeg ?hs ?_); (case hs => walk_at "sz"))
  | ((with_reducible refine x_slSloI ?ht ?hs ?_); (case ht => walk_at "sz"); (case hs => walk_at "sz"))
  | ((with_reducible refine x_slShiI ?ht ?hs ?_); (case ht => walk_at "sz"); (case hs => walk_at "sz"))
  | ((with_reducible refine x_rng1 ?hs ?ht ?_); (case hs => walk_at "sz"); (case ht => walk_at "sz"))
  | ((with_reducible refine x_rng2 ?hs ?_); (case hs => walk_at "sz"))
  | ((with_reducible refine x_newL ?hs ?_); (case hs => walk_at "sz"); intro px Hx npx ex hpx)
  | ((with_reducible refine x_newT ?hs ?_); (case hs => walk_at "sz"); intro px Hx npx ex hpx)
  | ((with_reducible apply x_lenL); (walk_at "hp"))
  | ((with_reducible apply x_refL); (walk_at "hp"))
  | ((with_reducible apply x_uL); (walk_at "hp"))
  | ((with_reducible apply x_tyL); (walk_at "hp"))
  )
local macro_rules | `(tactic| walk_at "xs") => `(tactic| repeat (walk_at "x"))
/- sizes, bounds -/
local macro_rules | `(tactic| walk_at "sz") => `(tactic| first
  | with_reducible assumption
  | (rw [sizeLine_eq]; first | omega | (simp only [List.length_cons, List.length_nil, List.length_append, List.length_map, List.length_reverse, List.length_range, List.length_drop, List.length_take, List.length_dropLast]; omega))
  | omega
  | (unfold CMul; omega)
  | (simp only [List.length_cons, List.length_nil, List.length_append, List.length_map, List.length_reverse, List.length_range, List.length_drop, List.length_take, List.length_dropLast]; omega))
/- what stands in the heap -/
local macro_rules | `(tactic| walk_at "hp") => `(tactic| first
  | assumption
  | ((with_reducible apply SqL.of); walk_at "hp")
  | ((with_reducible apply SqT.of); walk_at "hp")
  | ((with_reducible apply Ex.at_); assumption; walk_at "hp")
  | ((with_reducible apply ex_l); assumption; walk_at "hp")
  | ((with_reducible apply ex_t); assumption; walk_at "hp"))
local macro_rules | `(tactic| walk_at "ex") => `(tactic| first
  | assumption
  | exact Ex.rfl'
  | (refine Ex.trs ?_ (by assumption); walk_at "ex"))
/- an item at a place within: what is left speaks of the item -/
local macro_rules | `(tactic| walk_at "ix") => `(tactic| ((with_reducible apply x_ixLm); (walk_at "hp"); (walk_at "sz"); (walk_at "sz")))
local macro_rules | `(tactic| walk_at "is") => `(tactic| ((with_reducible apply x_ixSm); (walk_at "sz"); (walk_at "sz"); (walk_at "sz")))

local macro_rules | `(tactic| walk_at "y") => `(tactic| repeat (walk_at "x"))
abbrev kW : Str := ST [119, 111, 114, 100, 115]
abbrev kN : Str := ST [110, 101, 120, 116]
def ownK (wl : Addr) (nx : Nat) : List (Key × V) := [(.inr kW, .ref wl), (.inr kN, .int (nx : Int))]
/-- a word and its number -/
def pr2 (e : List Nat × Nat) : List V := [.str (ST e.1), .int (e.2 : Int)]
structure OwnAt (H : Hp) (o wl : Addr) (ts : List Addr) (own : Own) (nx : Nat) : Prop where
  od : H o = some (.dK (ownK wl nx))
  ol : H wl = some (.lst (ts.map V.ref))
  tl : ts.length = own.length
  tt : ∀ (i : Nat) (t : Addr) (e : List Nat × Nat), ts[i]? = some t → own[i]? = some e → H t = some (.tup (pr2 e))
theorem OwnAt.ex {H H' : Hp} {o wl : Addr} {ts : List Addr} {own : Own} {nx : Nat} (h : OwnAt H o wl ts own nx) (e : Ex H H') : OwnAt H' o wl ts own nx := ⟨e _ _ h.od, e _ _ h.ol, h.tl, fun i t x h1 h2 => e _ _ (h.tt i t x h1 h2)⟩
theorem kWN : ¬ (kW = kN) := fun h => by
  have := ST_inj.mp h
  simp at this
theorem own_w {H : Hp} {o wl : Addr} {ts : List Addr} {own : Own} {nx : Nat} (h : OwnAt H o wl ts own nx) : DGet H o (.str kW) (some (.ref wl)) := by
  have := DGet.k (k := .inr kW) h.od
  rwa [show valV (ownK wl nx) (.inr kW) = some (.ref wl) from valV_pos rfl] at this
theorem own_n {H : Hp} {o wl : Addr} {ts : List Addr} {own : Own} {nx : Nat} (h : OwnAt H o wl ts own nx) : DGet H o (.str kN) (some (.int (nx : Int))) := by
  have := DGet.k (k := .inr kN) h.od
  rwa [show valV (ownK wl nx) (.inr kN) = some (.int (nx : Int)) from (valV_neg fun z => kWN (Sum.inr.inj z)).trans (valV_pos rfl)] at this
theorem own_ne {H : Hp} {o wl : Addr} {ts : List Addr} {own : Own} {nx : Nat} (h : OwnAt H o wl ts own nx) : o ≠ wl := fun z => by
  have h1 := h.od
  rw [z, h.ol] at h1
  cases h1
theorem own_tne {H : Hp} {o wl : Addr} {ts : List Addr} {own : Own} {nx : Nat} (h : OwnAt H o wl ts own nx) {i : Nat} {t : Addr} {e : List Nat × Nat} (h1 : ts[i]? = some t) (h2 : own[i]? = some e) : t ≠ o ∧ t ≠ wl := by
  have h3 := h.tt i t e h1 h2
  refine ⟨fun z => ?_, fun z => ?_⟩
  · rw [z, h.od] at h3
    cases h3
  · rw [z, h.ol] at h3
    cases h3
theorem putK_n (wl : Addr) (nx m : Nat) : putK (ownK wl nx) (.inr kN) (.int (m : Int)) = ownK wl m := by
  unfold putK ownK
  have h1 : decide ((Sum.inr kW : Key) = Sum.inr kN) = false := decide_eq_false fun z => kWN (Sum.inr.inj z)
  rw [if_pos (by simp)]
  show [if (Sum.inr kW : Key) = Sum.inr kN then _ else _, if (Sum.inr kN : Key) = Sum.inr kN then _ else _] = _
  rw [if_neg fun z => kWN (Sum.inr.inj z), if_pos rfl]
/-- one more -/
theorem OwnAt.app {H : Hp} {o wl : Addr} {ts : List Addr} {own : Own} {nx : Nat} (h : OwnAt H o wl ts own nx) {t : Addr} {e : List Nat × Nat} (ht : H t = some (.tup (pr2 e))) : OwnAt (upd H wl (.lst (ts.map V.ref ++ [.ref t]))) o wl (ts ++ [t]) (own ++ [e]) nx := by
  refine ⟨by rw [upd_ne (own_ne h)]; exact h.od, by rw [upd_same, List.map_append]; rfl, by rw [List.length_append, List.length_append, h.tl]; rfl, fun i u x h1 h2 => ?_⟩
  have htw : t ≠ wl := fun z => by
    have h3 := h.ol
    rw [← z, ht] at h3
    cases h3
  by_cases c : i < own.length
  · rw [List.getElem?_append_left (by rw [h.tl]; exact c)] at h1
    rw [List.getElem?_append_left c] at h2
    rw [upd_ne (own_tne h h1 h2).2]
    exact h.tt i u x h1 h2
  · have hl := (List.getElem?_eq_some_iff.mp h2).1
    rw [List.length_append, List.length_singleton] at hl
    have ei : i = own.length := by omega
    subst ei
    rw [List.getElem?_append_right (Nat.le_refl _), Nat.sub_self] at h2
    rw [List.getElem?_append_right (by rw [h.tl]; exact Nat.le_refl _), h.tl, Nat.sub_self] at h1
    obtain rfl : e = x := Option.some.inj h2
    obtain rfl : t = u := Option.some.inj h1
    rw [upd_ne htw]
    exact ht
/-- the next number raised -/
theorem OwnAt.next {H : Hp} {o wl : Addr} {ts : List Addr} {own : Own} {nx : Nat} (h : OwnAt H o wl ts own nx) (m : Nat) : OwnAt (upd H o (.dK (ownK wl m))) o wl ts own m :=
  ⟨upd_same, by rw [upd_ne (own_ne h).symm]; exact h.ol, h.tl, fun i t e h1 h2 => by rw [upd_ne (own_tne h h1 h2).1]; exact h.tt i t e h1 h2⟩
/-- one less -/
theorem OwnAt.del {H : Hp} {o wl : Addr} {ts : List Addr} {own : Own} {nx : Nat} (h : OwnAt H o wl ts own nx) (j : Nat) : OwnAt (upd H wl (.lst ((ts.eraseIdx j).map V.ref))) o wl (ts.eraseIdx j) (own.eraseIdx j) nx := by
  refine ⟨by rw [upd_ne (own_ne h)]; exact h.od, upd_same, by rw [List.length_eraseIdx, List.length_eraseIdx, h.tl], fun i u x h1 h2 => ?_⟩
  rw [List.getElem?_eraseIdx] at h1 h2
  by_cases c : i < j
  · rw [if_pos c] at h1 h2
    rw [upd_ne (own_tne h h1 h2).2]
    exact h.tt _ _ _ h1 h2
  · rw [if_neg c] at h1 h2
    rw [upd_ne (own_tne h h1 h2).2]
    exact h.tt _ _ _ h1 h2
/-! ### as data -/
def dtp (e : List Nat × Nat) : PyData := .tuple [.str (ST e.1), .int (e.2 : Int)]
theorem dtp_lay {e : List Nat × Nat} (h : Okc e.1) : PyData.canLay0 (dtp e) = true := by
  unfold dtp PyData.canLay0
  show (PyData.canLay0 (.str (ST e.1)) && (PyData.canLay0 (.int (e.2 : Int)) && true)) = true
  have : PyData.canLay0 (.str (ST e.1)) = true := by
    unfold PyData.canLay0
    exact h
  rw [this]
  rfl
theorem dtps_lay : ∀ {es : Own}, (∀ e ∈ es, Okc e.1) → PyData.canLayAll0 (es.map dtp) = true
  | [], _ => rfl
  | e :: es, h => by
    show (PyData.canLay0 (dtp e) && PyData.canLayAll0 (es.map dtp)) = true
    rw [dtp_lay (h e List.mem_cons_self), dtps_lay fun f hf => h f (List.mem_cons_of_mem _ hf)]
    rfl
theorem dtps_depth : ∀ es : Own, PyData.depthAll (es.map dtp) ≤ 1
  | [] => Nat.zero_le _
  | e :: es => by
    show max (PyData.depth (dtp e)) (PyData.depthAll (es.map dtp)) ≤ 1
    have h1 := dtps_depth es
    have h2 : PyData.depth (dtp e) = 1 := rfl
    omega
theorem dtps_shaped {es : Own} (h : ∀ e ∈ es, Okc e.1) : SeqAt.shaped (.list (es.map dtp)) = true := by
  unfold SeqAt.shaped
  rw [Bool.and_eq_true]
  refine ⟨?_, ?_⟩
  · show PyData.canLay0 (.list (es.map dtp)) = true
    unfold PyData.canLay0
    exact dtps_lay h
  · have := dtps_depth es
    show decide (PyData.depthAll (es.map dtp) + 1 ≤ 64) = true
    exact decide_eq_true (by omega)
theorem dtp_shaped {e : List Nat × Nat} (h : Okc e.1) : SeqAt.shaped (dtp e) = true := by
  unfold SeqAt.shaped
  rw [Bool.and_eq_true]
  exact ⟨dtp_lay h, rfl⟩
theorem dtp_eqv (e f : List Nat × Nat) : PyData.eqv (dtp e) (dtp f) = decide (e = f) := by
  show ((ST e.1 == ST f.1) && (((e.2 : Int) == (f.2 : Int)) && true)) = decide (e = f)
  rw [Bool.and_true, Bool.eq_iff_iff, Bool.and_eq_true, beq_iff_eq, beq_iff_eq, decide_eq_true_eq, ST_inj]
  constructor
  · rintro ⟨h1, h2⟩
    exact Prod.ext h1 (by omega)
  · rintro rfl
    exact ⟨rfl, rfl⟩
theorem dtps_eqv : ∀ es fs : Own, PyData.eqvAll (es.map dtp) (fs.map dtp) = decide (es = fs)
  | [], [] => rfl
  | [], _ :: _ => rfl
  | _ :: _, [] => rfl
  | e :: es, f :: fs => by
    show (PyData.eqv (dtp e) (dtp f) && PyData.eqvAll (es.map dtp) (fs.map dtp)) = _
    rw [dtp_eqv, dtps_eqv es fs, Bool.eq_iff_iff, Bool.and_eq_true, decide_eq_true_eq, decide_eq_true_eq, decide_eq_true_eq]
    exact ⟨fun ⟨a, b⟩ => by rw [a, b], fun h => List.cons.inj h⟩
section
variable {g : G} {vs : List V} {H : Hp} {Q : VK} {E : XK} {K : Frag}
/-- refs of tuples that say es -/
theorem dpAll_tups : ∀ {ts : List Addr} {es : Own}, ts.length = es.length → (∀ (i : Nat) (t : Addr) (e : List Nat × Nat), ts[i]? = some t → es[i]? = some e → H t = some (.tup (pr2 e))) → DpAll K H (ts.map V.ref) (es.map dtp)
  | [], [], _, _ => .nil
  | [], _ :: _, h, _ => by simp at h
  | _ :: _, [], h, _ => by simp at h
  | t :: ts, e :: es, hl, h => .cons (.tup (SqT.of (h 0 t e rfl rfl)) (.cons (.str _) (.cons (.int _) .nil))) (dpAll_tups (by simpa using hl) fun i t' e' h1 h2 => h (i + 1) t' e' (by simpa using h1) (by simpa using h2))
theorem OwnAt.dp {o wl : Addr} {ts : List Addr} {own : Own} {nx : Nat} (h : OwnAt H o wl ts own nx) : DpAll K H (ts.map V.ref) (own.map dtp) := dpAll_tups h.tl h.tt
/-! ### _law_ring -/
def ringV (own : Own) (w : List Nat) : V := match ringOf own w with
  | some n => .int (n : Int)
  | none => .non
theorem mem_turns {w v : List Nat} (hw : 0 < w.length) (hv : 0 < v.length) : v ∈ turnsL w ↔ minT v = minT w := by
  constructor
  · intro h
    obtain ⟨p, hp, rfl⟩ := turnsL_mem.mp h
    exact minT_turn hp
  · intro h
    obtain ⟨j, hj, e⟩ := minT_eq hw hv h.symm
    exact turnsL_mem.mpr ⟨j, hj, e.symm⟩
def sp_law_ring (g : G) : Sp := fun vs H Q _ => ∃ o wl ts own nx w, vs = [.ref o, .str (ST w)] ∧ OwnAt H o wl ts own nx ∧ Word w ∧ (∀ e ∈ own, Word e.1) ∧ ∀ H', Ex H H' → Q (ringV own w) H'
theorem c_law_ring {o wl : Addr} {ts : List Addr} {own : Own} {nx : Nat} {w : List Nat} (h : OwnAt H o wl ts own nx) (h1 : Word w) (h2 : ∀ e ∈ own, Word e.1) (q : ∀ H', Ex H H' → Q (ringV own w) H') : sp_law_ring g [.ref o, .str (ST w)] H Q E := ⟨o, wl, ts, own, nx, w, rfl, h, h1, h2, q⟩
/-- _law_ring: slots _law_own, _law_word, _law_one, _law_number -/
def t_law_ring (g : G) : TS :=
  tSeq (tFor (iU g.K (tDGet (tVar 0) (tC (.str (ST [119, 111, 114, 100, 115]))))) (gTup g.K 2 (gCons (gName 2) (gCons (gName 3) gNil))) (tIfS (tTest (tOp (uIn g.K) (tVar 2) (tCall (sp_law_turnings g) [] E0 (tCons (tVar 1) tNil)))) (tRet (tVar 3)) tNext))
    (tRet (tC .non))
theorem find_at {own : Own} {p : List Nat × Nat → Bool} {k : Nat} {e : List Nat × Nat} (hk : own[k]? = some e) (he : p e = true) (hno : ∀ f ∈ own.take k, p f = false) : own.find? p = some e := by
  obtain ⟨hl, h1⟩ := List.getElem?_eq_some_iff.mp hk
  have e1 : own = own.take k ++ e :: own.drop (k + 1) := by
    rw [← h1, List.getElem_cons_drop, List.take_append_drop]
  rw [e1, List.find?_append, List.find?_eq_none.mpr fun f hf => by rw [hno f hf]; decide, Option.none_or, List.find?_cons_of_pos he]
theorem p_law_ring (h : sp_law_ring g vs H Q E) : t_law_ring g (D0 Q) (st0 4 vs) H := by
  obtain ⟨o, wl, ts, own, nx, w, rfl, hO, hw, hws, q⟩ := h
  show t_law_ring g (D0 Q) [some (.ref o), some (.str (ST w)), none, none] H
  unfold t_law_ring
  have hwl := hw.2
  walk_at "y"
  refine xd_get (x_var rfl (x_c ⟨o, _, rfl, own_w hO, ?_⟩))
  refine x_uL (SqL.of hO.ol) ?_
  refine x_forP (xs := ts.map V.ref) (fun k (a : Option V × Option V) => [some (.ref o), some (.str (ST w)), a.1, a.2]) (fun k a H' => Ex H H' ∧ ∀ e ∈ own.take k, decide (minT e.1 = minT w) = false) (none, none) rfl ⟨Ex.rfl', fun e h => by simp at h⟩ (fun k a H' I => SqL.of (I.1 _ _ hO.ol)) (fun k v a H' hk I => ?_) fun a H' I => ?_
  · obtain ⟨e1, hno⟩ := I
    obtain ⟨t, ht, rfl⟩ : ∃ t, ts[k]? = some t ∧ v = .ref t := by
      rw [List.getElem?_map] at hk
      cases h3 : ts[k]? with
      | none => rw [h3] at hk; cases hk
      | some t =>
        rw [h3] at hk
        exact ⟨t, rfl, (Option.some.inj hk).symm⟩
    have hkl : k < own.length := by
      have := (List.getElem?_eq_some_iff.mp ht).1
      have := hO.tl
      omega
    obtain ⟨e, he⟩ : ∃ e, own[k]? = some e := ⟨_, List.getElem?_eq_getElem hkl⟩
    have hem := List.mem_of_getElem? he
    refine ⟨.str (ST e.1), .int (e.2 : Int), t, rfl, e1 _ _ (hO.tt k t e ht he), ?_⟩
    show tIfS _ _ _ _ [some (.ref o), some (.str (ST w)), some (.str (ST e.1)), some (.int (e.2 : Int))] H'
    walk_at "y"
    refine c_law_turnings (by omega) fun p H2 np e2 hp => ?_
    walk_at "y"
    refine x_inTx (SqL.of hp) ?_
    have hiff := mem_turns hw.2.1 (hws e hem).2.1
    walk_at "y"
    refine x_ifd (fun hin => ?_) fun hin => ?_
    · walk_at "y"
      have h3 := find_at (p := fun e => decide (minT e.1 = minT w)) he (decide_eq_true (hiff.mp hin)) hno
      have h4 := q H2 (Ex.trs e1 e2)
      unfold ringV ringOf at h4
      rw [h3] at h4
      exact h4
    · walk_at "y"
      refine ⟨(_, _), rfl, Ex.trs e1 e2, fun f hf => ?_⟩
      rw [List.take_succ, he] at hf
      rcases List.mem_append.mp hf with hf | hf
      · exact hno f hf
      · obtain rfl := List.mem_singleton.mp hf
        exact decide_eq_false fun z => hin (hiff.mpr z)
  · obtain ⟨e1, hno⟩ := I
    rw [List.length_map, hO.tl, List.take_length] at hno
    walk_at "y"
    have h4 := q H' e1
    unfold ringV ringOf at h4
    rw [List.find?_eq_none.mpr fun f hf => by rw [hno f hf]; decide] at h4
    exact h4
/-! ### _law_due -/
/-- a result in the heap -/
def ResV (H H' : Hp) (v : V) : Res → Prop
  | .num n => v = .int (n : Int)
  | .no => v = .non
  | .mark i => v = .str (ST (markN i))
  | .ws l => ∃ p, v = .ref p ∧ H p = none ∧ H' p = some (.lst (tx l))
def sp_law_due (g : G) : Sp := fun vs H Q _ => ∃ (o wl : Addr) (ts : List Addr) (own : Own) (nx way : Nat) (w : List Nat), vs = [.ref o, .int (way : Int), .str (ST w)] ∧ way < 4 ∧ OwnAt H o wl ts own nx ∧ Word w ∧ (∀ e ∈ own, Word e.1) ∧ own.length ≤ 1000 ∧ (isIn own w = true → ∃ n, ringOf own w = some n ∧ (w, n) ∈ own) ∧
  ∀ v ts' H', ResV H H' v (dueF own nx way w).1 → OwnAt H' o wl ts' (dueF own nx way w).2.1 (dueF own nx way w).2.2 → Fr [o, wl] H H' → Q v H'
/-- _law_due: slots _law_own, _law_way, _law_word, _law_number, _law_there, _law_one, _law_other -/
def t_law_due (g : G) : TS :=
  tSeq (tAsg (tCall (sp_law_ring g) [] E0 (tCons (tVar 0) (tCons (tVar 2) tNil))) (gName 3))
    (tSeq (tAsg (tOp (uNe g.K) (tLc (iU g.K (tDGet (tVar 0) (tC (.str (ST [119, 111, 114, 100, 115]))))) (gName 5) (tTest (tOp (uEq g.K) (tOp (rIx g.K) (tVar 5) (tC (.int 0))) (tVar 2))) (tVar 5) [5]) (tLst tNil)) (gName 4))
    (tSeq (tIfS (tTest (tOp (uEq g.K) (tVar 1) (tC (.int 0)))) (tSeq (tIfS (tB (tVar 4)) (tRet (tC (.str (ST [116, 119, 105, 99, 101])))) tNext)
    (tSeq (tIfS (tTest (tOp uIs (tVar 3) (tC .non))) (tSeq (tAsg (tDGet (tVar 0) (tC (.str (ST [110, 101, 120, 116])))) (gName 3))
    (sDPut (tVar 0) (tC (.str (ST [110, 101, 120, 116]))) (tOp (uAdd g.K) (tVar 3) (tC (.int 1))))) tNext)
    (tSeq (tDrop (tBM g.K "list" rAppend (tDGet (tVar 0) (tC (.str (ST [119, 111, 114, 100, 115])))) (tCons (tTup (tCons (tVar 2) (tCons (tVar 3) tNil))) tNil)))
    (tRet (tVar 3))))) tNext)
    (tSeq (tIfS (tTest (tOp (uEq g.K) (tVar 1) (tC (.int 1)))) (tSeq (tIfS (tNot (tB (tVar 4))) (tRet (tC (.str (ST [114, 105, 110, 103])))) tNext)
    (tSeq (tDrop (tBM g.K "list" (rRemD g.K) (tDGet (tVar 0) (tC (.str (ST [119, 111, 114, 100, 115])))) (tCons (tTup (tCons (tVar 2) (tCons (tVar 3) tNil))) tNil)))
    (tRet (tVar 3)))) tNext)
    (tSeq (tIfS (tTest (tOp (uEq g.K) (tVar 1) (tC (.int 2)))) (tRet (tVar 3)) tNext)
    (tRet (tLc (iU g.K (tDGet (tVar 0) (tC (.str (ST [119, 111, 114, 100, 115]))))) (gTup g.K 2 (gCons (gName 5) (gCons (gName 6) gNil))) (tAnd (tTest (tOp (uEq g.K) (tVar 6) (tVar 3))) (tAnd (tTest (tOp (uNe g.K) (tVar 5) (tVar 2))) (tTest (tOp uIsNot (tVar 3) (tC .non))))) (tVar 5) [5, 6]))))))
theorem x_remPr {o wl : Addr} {ts : List Addr} {own : Own} {nx : Nat} (hO : OwnAt H o wl ts own nx) {e : List Nat × Nat} {t : Addr} (ht : H t = some (.tup (pr2 e))) (hm : e ∈ own) (ho : ∀ f ∈ own, Okc f.1) (q : ∀ ts' H', OwnAt H' o wl ts' (own.erase e) nx → Fr [o, wl] H H' → Q .non H') : rRemD K (.ref wl) [.ref t] H Q := by
  have hj : own.idxOf e < own.length := List.idxOf_lt_length_of_mem hm
  refine ⟨wl, ts.map V.ref, .ref t, dtp e, own.map dtp, own.idxOf e, dtp e, rfl, rfl, hO.ol, hO.dp, .tup (SqT.of ht) (.cons (.str _) (.cons (.int _) .nil)), dtps_shaped ho, dtp_shaped (ho e hm), ?_, ?_, fun m z' hm' hz => ?_, ?_⟩
  · rw [List.getElem?_map, List.getElem?_eq_getElem hj, List.getElem_idxOf hj]
    rfl
  · rw [dtp_eqv]
    exact decide_eq_true rfl
  · rw [List.getElem?_map, List.getElem?_eq_getElem (by omega)] at hz
    obtain rfl := Option.some.inj hz
    rw [dtp_eqv]
    refine decide_eq_false fun z => ?_
    have := List.not_of_lt_findIdx (p := (· == e)) (xs := own) hm'
    exact absurd z (by simpa using this)
  · rw [er_map]
    have h1 := hO.del (own.idxOf e)
    rw [← List.erase_eq_eraseIdx_of_idxOf (l := own) (a := e) rfl] at h1
    exact q _ _ h1 (Fr.put (by simp))
theorem range_fm2 {α β : Type} (l : List α) (f : α → Option β) : (List.range l.length).filterMap (fun i => (l[i]?).bind f) = l.filterMap f := by
  have e1 : (List.range l.length).map (fun i => l[i]?) = l.map some := by
    apply List.ext_getElem
    · simp
    · intro i h1 h2
      rw [List.length_map, List.length_range] at h1
      rw [List.getElem_map, List.getElem_range, List.getElem_map, List.getElem?_eq_getElem h1]
  have e2 : (List.range l.length).filterMap (fun i => (l[i]?).bind f) = ((List.range l.length).map (fun i => l[i]?)).filterMap fun o => o.bind f := by
    rw [List.filterMap_map]
    rfl
  rw [e2, e1, List.filterMap_map]
  rfl
theorem found_dp {o wl : Addr} {ts : List Addr} {own : Own} {nx : Nat} (hO : OwnAt H o wl ts own nx) (w : List Nat) : ∀ is : List Nat, ∃ es : Own, DpAll K H (is.filterMap fun i => match ts[i]?, own[i]? with
    | some t, some e => if e.1 = w then some (.ref t) else none
    | _, _ => none) (es.map dtp) ∧ (∀ e ∈ es, e ∈ own) ∧ ((∃ i ∈ is, ∃ e, own[i]? = some e ∧ e.1 = w) ↔ es ≠ [])
  | [] => ⟨[], .nil, fun e h => by simp at h, by simp⟩
  | i :: is => by
    obtain ⟨es, h1, h2, h3⟩ := found_dp hO w is
    cases hei : own[i]? with
    | none =>
      refine ⟨es, ?_, h2, ?_⟩
      · rw [List.filterMap_cons, hei]
        cases ts[i]? <;> exact h1
      · refine Iff.trans ⟨?_, ?_⟩ h3
        · rintro ⟨k, hk, e, he, hw⟩
          rcases List.mem_cons.mp hk with rfl | hk
          · rw [hei] at he
            cases he
          · exact ⟨k, hk, e, he, hw⟩
        · rintro ⟨k, hk, r⟩
          exact ⟨k, List.mem_cons_of_mem _ hk, r⟩
    | some e =>
      have hil := (List.getElem?_eq_some_iff.mp hei).1
      have hti : ts[i]? = some (ts[i]'(by rw [hO.tl]; exact hil)) := List.getElem?_eq_getElem _
      by_cases c : e.1 = w
      · refine ⟨e :: es, ?_, fun f hf => ?_, ?_⟩
        · rw [List.filterMap_cons, hei, hti]
          simp only [if_pos c]
          exact .cons (.tup (SqT.of (hO.tt i _ _ hti hei)) (.cons (.str _) (.cons (.int _) .nil))) h1
        · rcases List.mem_cons.mp hf with rfl | hf
          · exact List.mem_of_getElem? hei
          · exact h2 f hf
        · exact ⟨fun _ => by simp, fun _ => ⟨i, List.mem_cons_self, e, hei, c⟩⟩
      · refine ⟨es, ?_, h2, ?_⟩
        · rw [List.filterMap_cons, hei, hti]
          simp only [if_neg c]
          exact h1
        · refine Iff.trans ⟨?_, ?_⟩ h3
          · rintro ⟨k, hk, f, he, hw⟩
            rcases List.mem_cons.mp hk with rfl | hk
            · rw [hei] at he
              obtain rfl := Option.some.inj he
              exact absurd hw c
            · exact ⟨k, hk, f, he, hw⟩
          · rintro ⟨k, hk, r⟩
            exact ⟨k, List.mem_cons_of_mem _ hk, r⟩
theorem p_law_due (h : sp_law_due g vs H Q E) : t_law_due g (D0 Q) (st0 7 vs) H := by
  obtain ⟨o, wl, ts, own, nx, way, w, rfl, hway, hO, hw, hws, hlen, hin, q⟩ := h
  show t_law_due g (D0 Q) [some (.ref o), some (.int (way : Int)), some (.str (ST w)), none, none, none, none] H
  unfold t_law_due
  have hok : ∀ f ∈ own, Okc f.1 := fun f hf => (hws f hf).1.okc
  walk_at "y"
  refine c_law_ring hO hw hws fun H1 e1 => ?_
  have hO1 := hO.ex e1
  walk_at "y"
  refine xd_get (x_var rfl (x_c ⟨o, _, rfl, own_w hO1, ?_⟩))
  refine x_uL (SqL.of hO1.ol) ?_
  refine lc_opt (n := own.length) (fun i => match ts[i]?, own[i]? with
    | some t, some e => if e.1 = w then some (.ref t) else none
    | _, _ => none) (by omega) (fun i H' e hi => ⟨_, .ref (ts[i]'(by rw [hO.tl]; exact hi)), SqL.of (e _ _ hO1.ol), ?_⟩) (fun H' e => ⟨_, SqL.of (e _ _ hO1.ol), by rw [List.length_map, hO.tl]; exact Nat.le_refl _⟩) (fun i H' hi e x H'' hy R R0 r1 r2 => ?_) fun p H2 np e2 hp => ?_
  · rw [List.getElem?_map, List.getElem?_eq_getElem (by rw [hO.tl]; exact hi)]
    rfl
  · obtain ⟨rfl, hx⟩ := hy
    have h1 := hx _ (SqL.of (e _ _ hO1.ol))
    have hti : ts[i]? = some (ts[i]'(by rw [hO.tl]; exact hi)) := List.getElem?_eq_getElem _
    have hei : own[i]? = some own[i] := List.getElem?_eq_getElem hi
    rw [List.getElem?_map, hti] at h1
    obtain rfl := Option.some.inj h1
    rw [hti, hei] at r1 r2
    refine ⟨rfl, ?_⟩
    walk_at "y"
    refine x_ixT (SqT.of (e _ _ (hO1.tt i _ _ hti hei))) (atI_nat (j := 0) rfl) ?_
    walk_at "y"
    refine x_ifd (fun c => ?_) fun c => ?_
    · walk_at "y"
      exact r1 _ _ (if_pos c) Ex.rfl'
    · exact r2 (if_neg c) _ Ex.rfl'
  -- what was found, as data
  have hO2 := hO1.ex e2
  walk_at "y"
  rename_i pe H3 npe e3 hpe
  have hO3 := hO2.ex e3
  obtain ⟨es, hes1, hes2, hes3⟩ := found_dp (K := g.K) hO3 w (List.range own.length)
  have hfound : (!decide (es = [])) = isIn own w := by
    rw [Bool.eq_iff_iff, Bool.not_eq_true', decide_eq_false_iff_not, isIn_iff]
    refine (hes3.symm).trans ⟨?_, ?_⟩
    · rintro ⟨i, _, e, he, rfl⟩
      exact ⟨e.2, List.mem_of_getElem? he⟩
    · rintro ⟨n, hn⟩
      obtain ⟨i, hi⟩ := List.getElem?_of_mem hn
      exact ⟨i, List.mem_range.mpr (List.getElem?_eq_some_iff.mp hi).1, _, hi, rfl⟩
  refine x_neD (d := .list (es.map dtp)) (e := .list (([] : Own).map dtp)) (.lst (SqL.of (e3 _ _ hp)) hes1) (.lst (SqL.of hpe) .nil) (dtps_shaped fun f hf => hok f (hes2 f hf)) (dtps_shaped fun f hf => by simp at hf) ?_
  rw [show PyData.eqv (.list (es.map dtp)) (.list (([] : Own).map dtp)) = decide (es = []) from dtps_eqv es [], hfound]
  have e13 : Ex H H3 := Ex.trs e1 (Ex.trs e2 e3)
  clear hes1 hes2 hes3 hfound hp hpe e1 e2 e3
  walk_at "y"
  rcases (by omega : way = 0 ∨ way = 1 ∨ way = 2 ∨ way = 3) with rfl | rfl | rfl | rfl
  · refine x_it (by decide) ?_
    walk_at "y"
    cases hI : isIn own w with
    | true =>
      refine x_it rfl ?_
      walk_at "y"
      unfold dueF at q
      simp only [hI, if_true] at q
      exact q _ ts H3 rfl hO3 (Fr.of e13)
    | false =>
      refine x_if0 rfl ?_
      walk_at "y"
      unfold dueF at q
      simp only [hI] at q
      unfold ringV
      cases hR : ringOf own w with
      | some n =>
        simp only [hR] at q
        refine x_if0 (by simp) ?_
        walk_at "y"
        refine xd_get (x_var rfl (x_c ⟨o, _, rfl, own_w hO3, ?_⟩))
        have hol := hO3.ol
        walk_at "y"
        rename_i t H4 nt e4 ht
        refine x_append (e4 _ _ hol) (by rw [List.length_map, hO.tl, sizeLine_eq]; omega) ?_
        walk_at "y"
        exact q _ _ _ rfl ((hO3.ex e4).app ht) ((Fr.of (Ex.trs e13 e4)).trs (Fr.put (by simp)))
      | none =>
        simp only [hR] at q
        refine x_it (by simp) ?_
        walk_at "y"
        refine xd_get (x_var rfl (x_c ⟨o, _, rfl, own_n hO3, ?_⟩))
        walk_at "y"
        refine xd_put ?_
        walk_at "y"
        refine ⟨o, _, rfl, DPut.k (k := .inr kN) hO3.od (by rw [sizeLine_eq]; show 2 < 16777216; decide), ?_⟩
        rw [show (nx : Int) + 1 = ((nx + 1 : Nat) : Int) from rfl, putK_n]
        have hO4 := hO3.next (nx + 1)
        have hF4 : Fr [o, wl] H (upd H3 o (.dK (ownK wl (nx + 1)))) := (Fr.of e13).trs (Fr.put (by simp))
        generalize upd H3 o (.dK (ownK wl (nx + 1))) = H4 at *
        walk_at "y"
        refine xd_get (x_var rfl (x_c ⟨o, _, rfl, own_w hO4, ?_⟩))
        have hol := hO4.ol
        walk_at "y"
        rename_i t H5 nt e5 ht
        refine x_append (e5 _ _ hol) (by rw [List.length_map, hO.tl, sizeLine_eq]; omega) ?_
        walk_at "y"
        exact q _ _ _ rfl ((hO4.ex e5).app ht) (hF4.trs ((Fr.of e5).trs (Fr.put (by simp))))
  · refine x_if0 (by decide) ?_
    walk_at "y"
    refine x_it (by decide) ?_
    walk_at "y"
    cases hI : isIn own w with
    | false =>
      refine x_it rfl ?_
      walk_at "y"
      unfold dueF at q
      simp only [hI] at q
      exact q _ ts H3 rfl hO3 (Fr.of e13)
    | true =>
      obtain ⟨n, hR, hmem⟩ := hin hI
      refine x_if0 rfl ?_
      walk_at "y"
      unfold dueF at q
      simp only [hI, if_true, hR] at q
      unfold ringV
      simp only [hR]
      refine xd_get (x_var rfl (x_c ⟨o, _, rfl, own_w hO3, ?_⟩))
      have hol := hO3.ol
      walk_at "y"
      rename_i t H4 nt e4 ht
      have hO4 := hO3.ex e4
      have hol4 := hO4.ol
      refine x_remPr (e := (w, n)) hO4 ht hmem hok fun ts' H5 hO5 hF5 => ?_
      walk_at "y"
      exact q _ _ _ rfl hO5 ((Fr.of (Ex.trs e13 e4)).trs hF5)
  · refine x_if0 (by decide) ?_
    walk_at "y"
    refine x_if0 (by decide) ?_
    walk_at "y"
    refine x_it (by decide) ?_
    walk_at "y"
    unfold dueF at q
    unfold ringV
    cases hR : ringOf own w with
    | some n =>
      simp only [hR] at q
      exact q _ ts H3 rfl hO3 (Fr.of e13)
    | none =>
      simp only [hR] at q
      exact q _ ts H3 rfl hO3 (Fr.of e13)
  · refine x_if0 (by decide) ?_
    walk_at "y"
    refine x_if0 (by decide) ?_
    walk_at "y"
    refine x_if0 (by decide) ?_
    walk_at "y"
    refine xd_get (x_var rfl (x_c ⟨o, _, rfl, own_w hO3, ?_⟩))
    refine x_uL (SqL.of hO3.ol) ?_
    unfold dueF at q
    simp only at q
    have fin : ∀ (c : List Nat × Nat → Bool) (p : Addr) (H4 : Hp), H3 p = none → Ex H3 H4 → H4 p = some (.lst ((List.range own.length).filterMap fun i => (own[i]?).bind fun e => if c e = true then some (V.str (ST e.1)) else none)) → H p = none ∧ H4 p = some (.lst (tx ((own.filter c).map (·.1)))) := fun c p H4 np e4 hp => by
      refine ⟨fresh_back e13 np, ?_⟩
      rw [hp, range_fm2]
      congr 2
      unfold tx
      rw [List.map_map, ← List.filterMap_eq_map, ← List.filterMap_eq_filter, List.filterMap_filterMap]
      congr 1
      funext e
      cases h : c e <;> simp [Option.guard, h]
    have item : ∀ (i : Nat) (H' : Hp) (x : V) (H'' : Hp), i < own.length → Ex H3 H' → (Itl g.K wl).yld i H' x H'' → ∃ t e, x = .ref t ∧ H'' = H' ∧ own[i]? = some e ∧ H' t = some (.tup (pr2 e)) := fun i H' x H'' hi e hy => by
      obtain ⟨rfl, hx⟩ := hy
      have h1 := hx _ (SqL.of (e _ _ hO3.ol))
      have hti : ts[i]? = some (ts[i]'(by rw [hO.tl]; exact hi)) := List.getElem?_eq_getElem _
      have hei : own[i]? = some own[i] := List.getElem?_eq_getElem hi
      rw [List.getElem?_map, hti] at h1
      obtain rfl := Option.some.inj h1
      exact ⟨_, _, rfl, rfl, hei, e _ _ (hO3.tt i _ _ hti hei)⟩
    have go : ∀ (i : Nat) (H' : Hp), Ex H3 H' → i < own.length → (Itl g.K wl).go i H' := fun i H' e hi => ⟨_, .ref (ts[i]'(by rw [hO.tl]; exact hi)), SqL.of (e _ _ hO3.ol), by
      rw [List.getElem?_map, List.getElem?_eq_getElem (by rw [hO.tl]; exact hi)]
      rfl⟩
    have stop : ∀ H', Ex H3 H' → (Itl g.K wl).stop own.length H' := fun H' e => ⟨_, SqL.of (e _ _ hO3.ol), by rw [List.length_map, hO.tl]; exact Nat.le_refl _⟩
    unfold ringV
    cases hR : ringOf own w with
    | some n =>
      simp only [hR] at q
      refine lc_opt (n := own.length) (fun i => (own[i]?).bind fun e => if (decide (e.2 = n) && !decide (e.1 = w)) = true then some (V.str (ST e.1)) else none) (by omega) go stop (fun i H' hi e x H'' hy R R0 r1 r2 => ?_) fun p H4 np e4 hp => ?_
      · obtain ⟨t, f, rfl, rfl, hf, ht⟩ := item i H' x H'' hi e hy
        rw [hf] at r1 r2
        refine x_gtup (xs := pr2 f) ht rfl (x_gcons (x_gcons (x_gnil ⟨rfl, ?_⟩)))
        walk_at "y"
        refine x_ifd (fun c1 => ?_) fun c1 => ?_
        · have c1' : f.2 = n := by omega
          walk_at "y"
          refine x_ifnd (fun c2 => ?_) fun c2 => ?_
          · walk_at "y"
            refine x_it (by simp) ?_
            walk_at "y"
            exact r1 _ _ (by simp [c1', c2]) Ex.rfl'
          · refine x_if0 rfl ?_
            exact r2 (by simp [c2]) _ Ex.rfl'
        · have c1' : ¬ f.2 = n := fun z => c1 (by rw [z])
          refine x_if0 rfl ?_
          exact r2 (by simp [c1']) _ Ex.rfl'
      · obtain ⟨h1, h2⟩ := fin _ p H4 np e4 hp
        exact q _ ts H4 ⟨p, rfl, h1, h2⟩ (hO3.ex e4) (Fr.of (Ex.trs e13 e4))
    | none =>
      simp only [hR] at q
      refine lc_opt (n := own.length) (fun i => (own[i]?).bind fun e => if (fun _ : List Nat × Nat => false) e = true then some (V.str (ST e.1)) else none) (by omega) go stop (fun i H' hi e x H'' hy R R0 r1 r2 => ?_) fun p H4 np e4 hp => ?_
      · obtain ⟨t, f, rfl, rfl, hf, ht⟩ := item i H' x H'' hi e hy
        rw [hf] at r1 r2
        refine x_gtup (xs := pr2 f) ht rfl (x_gcons (x_gcons (x_gnil ⟨rfl, ?_⟩)))
        walk_at "y"
        refine x_eqN rfl (fun z => nomatch z) ?_
        walk_at "y"
        exact r2 rfl _ Ex.rfl'
      · obtain ⟨h1, h2⟩ := fin _ p H4 np e4 hp
        rw [show own.filter (fun _ => false) = [] from List.filter_eq_nil_iff.mpr (by simp)] at h2
        exact q _ ts H4 ⟨p, rfl, h1, h2⟩ (hO3.ex e4) (Fr.of (Ex.trs e13 e4))
end
end RW

/-! K12B: _law_whole, _law_told. -/
namespace RW
open PySem PySem.Spec PyProof.Rows L2
open Evl (Ex ex_l ex_t ex_rd fresh_back)
local macro_rules | `(tactic| walk_at "x") => `(tactic| first
  | ((with_reducible apply x_var); exact rfl)
  | with_reducible refine x_c ?_
  | with_reducible refine x_op ?_
  | with_reducible refine x_un ?_
  | with_reducible refine x_neg ?_
  | with_reducible refine x_addI ?_
  | with_reducible refine x_subI ?_
  | with_reducible refine x_ltI ?_
  | with_reducible refine x_ltS ?_
  | with_reducible refine x_leI ?_
  | with_reducible refine x_leS ?_
  | with_reducible refine x_gtI ?_
  | with_reducible refine x_gtS ?_
  | with_reducible refine x_geI ?_
  | with_reducible refine x_eqI ?_
  | with_reducible refine x_eqS ?_
  | with_reducible refine x_eqB ?_
  | with_reducible refine x_neI ?_
  | with_reducible refine x_neS ?_
  | with_reducible refine x_isN ?_
  | with_reducible refine x_isB ?_
  | with_reducible refine x_isNotN ?_
  | with_reducible refine x_isNotB ?_
  | with_reducible refine x_inS ?_
  | with_reducible refine x_sl ?_
  | with_reducible refine x_part ?_
  | with_reducible refine x_nopart ?_
  | with_reducible refine x_rev ?_
  | with_reducible refine x_nil ?_
  | with_reducible refine x_cons ?_
  | with_reducible refine x_lst0 ?_
  | with_reducible refine x_tup0 ?_
  | with_reducible refine x_call0 ?_
  | with_reducible refine x_callS ?_
  | with_reducible refine x_cb ?_
  | with_reducible refine x_m1 ?_
  | with_reducible refine x_m1s ?_
  | with_reducible refine x_bm ?_
  | with_reducible refine x_bm0 ?_
  | with_reducible refine x_tyS ?_
  | with_reducible refine x_max2 ?_
  | with_reducible refine x_min2 ?_
  | with_reducible refine x_seq ?_
  | with_reducible refine x_asg ?_
  | with_reducible refine x_asgG ?_
  | with_reducible refine x_ret ?_
  | with_reducible refine x_retN ?_
  | with_reducible refine x_if ?_
  | with_reducible refine x_next ?_
  | with_reducible refine x_drop ?_
  | with_reducible refine x_break ?_
  | with_reducible refine x_cont ?_
  | with_reducible refine x_par ?_
  | with_reducible refine x_par2 ?_
  | ((with_reducible apply x_aug); exact rfl)
  | with_reducible refine x_ip ?_
  | with_reducible refine x_test ?_
  | with_reducible refine x_tB ?_
  | with_reducible refine x_bl ?_
  | with_reducible refine x_and ?_
  | with_reducible refine x_or ?_
  | with_reducible refine x_not ?_
  | with_reducible refine x_andV ?_
  | with_reducible refine x_orV ?_
  | with_reducible refine x_notV ?_
  | with_reducible refine x_ifV ?_
  | with_reducible refine x_chain ?_
  | with_reducible refine x_intA ?_
  | with_reducible refine x_strA ?_
  | with_reducible refine x_yes ?_
  | with_reducible refine iteT ?_
  | with_reducible refine iteF ?_
  | with_reducible refine x_forRng1 ?_
  | with_reducible refine x_forRng2 ?_
  | with_reducible refine x_forLst ?_
  | with_reducible refine x_forU ?_
  | with_reducible refine x_lcRng1 ?_
  | with_reducible refine x_lcRng2 ?_
  | with_reducible refine x_lcLst ?_
  | with_reducible refine x_lcU ?_
  | with_reducible refine x_uS ?_
  | with_reducible refine x_gcons ?_
  | with_reducible refine x_gnil ?_
  -- with side conditions
  | ((with_reducible refine x_addS ?hs ?_); (case hs => walk_at "sz"))
  | ((with_reducible refine x_divI ?hs ?ht ?_); (case hs => walk_at "sz"); (case ht => walk_at "sz"))
  | ((with_reducible refine x_modI ?hs ?_); (case hs => walk_at "sz"))
  | ((with_reducible refine x_mulI ?hs ?_); (case hs => walk_at "sz"))
  | ((with_reducible refine x_lenS ?hs ?_); (case hs => walk_at "sz"))
  | ((with_reducible refine x_slSlo ?hs ?_); (case hs => walk_at "sz"))
  | ((with_reducible refine x_slShi ?hs ?_); (case hs => walk_at "sz"))
  | ((with_reducible refine x_slSlohi ?hs ?_); (case hs => walk_at "sz"))
  | ((with_reducible refine x_slShiNeg ?hs ?_); (case hs => walk_at "sz"))
  | ((with_reducible refine x_slSloI ?ht ?hs ?_); (case ht => walk_at "sz"); (case hs => walk_at "sz"))
  | ((with_reducible refine x_slShiI ?ht ?hs ?_); (case ht => walk_at "sz"); (case hs => walk_at "sz"))
  | ((with_reducible refine x_rng1 ?hs ?ht ?_); (case hs => walk_at "sz"); (case ht => walk_at "sz"))
  | ((with_reducible refine x_rng2 ?hs ?_); (case hs => walk_at "sz"))
  | ((with_reducible refine x_newL ?hs ?_); (case hs => walk_at "sz"); intro px Hx npx ex hpx)
  | ((with_reducible refine x_newT ?hs ?_); (case hs => walk_at "sz"); intro px Hx npx ex hpx)
  | ((with_reducible apply x_lenL); (walk_at "hp"))
  | ((with_reducible apply x_refL); (walk_at "hp"))
  | ((with_reducible apply x_uL); (walk_at "hp"))
  | ((with_reducible apply x_tyL); (walk_at "hp"))
  )
local macro_rules | `(tactic| walk_at "xs") => `(tactic| repeat (walk_at "x"))
/- sizes, bounds -/
local macro_rules | `(tactic| walk_at "sz") => `(tactic| first
  | with_reducible assumption
  | (rw [sizeLine_eq]; first | omega | (simp only [List.length_cons, List.length_nil, List.length_append, List.length_map, List.length_reverse, List.length_range, List.length_drop, List.length_take, List.length_dropLast]; omega))
  | omega
  | (unfold CMul; omega)
  | (simp only [List.length_cons, List.length_nil, List.length_append, List.length_map, List.length_reverse, List.length_range, List.length_drop, List.length_take, List.length_dropLast]; omega))
/- what stands in the heap -/
local macro_rules | `(tactic| walk_at "hp") => `(tactic| first
  | assumption
  | ((with_reducible apply SqL.of); walk_at "hp")
  | ((with_reducible apply SqT.of); walk_at "hp")
  | ((with_reducible apply Ex.at_); assumption; walk_at "hp")
  | ((with_reducible apply ex_l); assumption; walk_at "hp")
  | ((with_reducible apply ex_t); assumption; walk_at "hp"))
local macro_rules | `(tactic| walk_at "ex") => `(tactic| first
  | assumption
  | exact Ex.rfl'
  | (refine Ex.trs ?_ (by assumption); walk_at "ex"))
/- an item at a place within: what is left speaks of the item -/
local macro_rules | `(tactic| walk_at "ix") => `(tactic| ((with_reducible apply x_ixLm); (walk_at "hp"); (walk_at "sz"); (walk_at "sz")))
local macro_rules | `(tactic| walk_at "is") => `(tactic| ((with_reducible apply x_ixSm); (walk_at "sz"); (walk_at "sz"); (walk_at "sz")))

local macro_rules | `(tactic| walk_at "y") => `(tactic| repeat (walk_at "x"))
structure E12 (g : G) : Prop where
  w : ErrOk g g.cNoWord 0
  r : ErrOk g g.cNoRing 4
  t : ErrOk g g.cTwice 5
  ww : ErrW g g.cNoWord
  wr : ErrW g g.cNoRing
  wt : ErrW g g.cTwice
  n : NotErr g
section
variable {g : G} {vs : List V} {H : Hp} {Q : VK} {E : XK} {K : Frag}
/-! ### _law_whole -/
def sp_k12_whole (g : G) : Sp := fun vs H Q _ => ∃ i j : Int, vs = [.int i, .int j] ∧ Q (.bl (decide (i = j))) H
theorem c_k12_whole {i j : Int} (q : Q (.bl (decide (i = j))) H) : sp_k12_whole g [.int i, .int j] H Q E := ⟨i, j, rfl, q⟩
/-- _law_whole: slots _law_found, _law_due_here -/
def t_k12_whole (g : G) : TS :=
  tRet (tAndV (tCB (rIsU g.K) (tCons (tVar 0) (tCons (tC (.ty "int")) tNil))) (tAndV (tNotV (tCB (rIsU g.K) (tCons (tVar 0) (tCons (tC (.ty "bool")) tNil)))) (tOp (uEq g.K) (tVar 0) (tVar 1))))
theorem p_k12_whole (h : sp_k12_whole g vs H Q E) : t_k12_whole g (D0 Q) (st0 2 vs) H := by
  obtain ⟨i, j, rfl, q⟩ := h
  show t_k12_whole g (D0 Q) [some (.int i), some (.int j)] H
  unfold t_k12_whole
  walk_at "y"
  refine x_isT (.base (.int _)) (by decide +kernel : kitB "int" "int" = some true) ?_
  walk_at "y"
  refine x_isT (.base (.int _)) (by decide +kernel : kitB "int" "bool" = some false) ?_
  walk_at "y"
  refine x_it rfl ?_
  walk_at "y"
  exact q
/-! ### _law_told -/
/-- new feet stand on new places -/
def Grow (H : Hp) (fp fq : List Addr) : Prop := ∀ x ∈ fq, x ∈ fp ∨ H x = none
def sp_k12_told (g : G) : Sp := fun vs H Q _ => E12 g ∧ RC g ∧
  ((∃ (b dn dw : Addr) (rs : List Ring) (nx : Nat) (own : Own) (way : Nat) (w : List Nat), vs = [.ref b, .int (way : Int), .str (ST w)] ∧ way < 4 ∧ Word w ∧ BookAt g H b dn dw rs nx ∧ BookOk rs nx ∧ Link own rs ∧ own.length ≤ 1000 ∧
     ∀ v rs' H', ResV H H' v (dueF own nx way w).1 → (∀ p, v = .ref p → p ∉ feet b dn dw rs') → BookAt g H' b dn dw rs' (dueF own nx way w).2.2 → BookOk rs' (dueF own nx way w).2.2 → Link (dueF own nx way w).2.1 rs' → Fr (feet b dn dw rs) H H' → Grow H (feet b dn dw rs) (feet b dn dw rs') → Q v H') ∨
   (∃ (b dn dw : Addr) (rs : List Ring) (nx : Nat) (n : Int), vs = [.ref b, .int 4, .int n] ∧ BookAt g H b dn dw rs nx ∧ BookOk rs nx ∧
     ((∃ r ∈ rs, (r.num : Int) = n ∧ ∀ p H', H p = none → Ex H H' → H' p = some (.lst (tx r.ws)) → Q (.ref p) H') ∨ ((∀ r ∈ rs, (r.num : Int) ≠ n) ∧ ∀ H', Ex H H' → Q (.str (ST (markN 4))) H'))) ∨
   (∃ (b dn dw : Addr) (rs : List Ring) (nx way : Nat) (v : V), vs = [.ref b, .int (way : Int), v] ∧ way < 4 ∧ BookAt g H b dn dw rs nx ∧ IsW g.K H v false ∧ ∀ H', Ex H H' → Q (.str (ST (markN 0))) H'))
/-- _law_told: slots _law_book, _law_way, _law_thing, _law_found, _law_e -/
def t_k12_told (g : G) : TS :=
  tSeq (fun D σ H => (fun W => tIfS (tTest (tOp (uEq g.K) (tVar 1) (tC (.int 0)))) (tAsg (tMethV g.cRings "add" (sp_Rings_add g) (WE W) (tVar 0) (tCons (tVar 2) tNil)) (gName 3)) (tIfS (tTest (tOp (uEq g.K) (tVar 1) (tC (.int 1)))) (tAsg (tMethV g.cRings "take" (sp_k12_Rings_take g) (WE W) (tVar 0) (tCons (tVar 2) tNil)) (gName 3)) (tIfS (tTest (tOp (uEq g.K) (tVar 1) (tC (.int 2)))) (tAsg (tMethV g.cRings "ring_of" (sp_Rings_ring_of g) (WE W) (tVar 0) (tCons (tVar 2) tNil)) (gName 3)) (tIfS (tTest (tOp (uEq g.K) (tVar 1) (tC (.int 3)))) (tAsg (tMethV g.cRings "others" (sp_k12_Rings_others g) (WE W) (tVar 0) (tCons (tVar 2) tNil)) (gName 3)) (tAsg (tMethV g.cRings "members" (sp_k12_Rings_members g) (WE W) (tVar 0) (tCons (tVar 2) tNil)) (gName 3)))))) (wAsE g.K (.ref g.cWordError) 4 (fun _ _ _ => tAsg (tVar 4) (gName 3)) (fun _ _ _ _ => False) D) { D with nx := tNext D } σ H)
    (tSeq (tIfS (tB (tCB (rIsU g.K) (tCons (tVar 3) (tCons (tC (.ref g.cWordError)) tNil)))) (tRet (tCall (sp_law_mark g) [] E0 (tCons (tVar 3) tNil))) tNext)
    (tRet (tVar 3)))
theorem x_marked12 {σ : L2.St} {D C : Addr} {i j : Nat} {a : Addr} {tw : TS} {nx bk ct : L2.St → Hp → Prop} {rt : VK} (hσ : σ[j]? = some (some (.ref a))) (ha : H a = some (ExT (.ref D) a)) (m : MarkC g D i) (hi : i < 6) (hw : PySem.W.kitOne g.K (.ref D) (.ref C) = some true) (q : ∀ H', Ex H H' → rt (.str (ST (markN i))) H') :
    tIfS (tB (tCB (rIsU g.K) (tCons (tVar j) (tCons (tC (.ref C)) tNil)))) (tRet (tCall (sp_law_mark g) [] E0 (tCons (tVar j) tNil))) tw ⟨nx, rt, bk, ct⟩ σ H := by
  refine x_if (x_tB (x_cb (x_cons (x_var hσ (x_cons (x_c (x_nil (x_isX ha m.x (.own _) hw ⟨_, rfl, x_it rfl ?_⟩))))))))
  exact x_ret (x_call0 (x_cons (x_var hσ (x_nil (c_law_mark ha hi m fun H' e => q _ e)))))
theorem feet_no {b dn dw : Addr} {rs : List Ring} {nx : Nat} (hB : BookAt g H b dn dw rs nx) {p : Addr} (hp : H p = none) : p ∉ feet b dn dw rs := fun z => by
  obtain ⟨o, ho⟩ := hB.has p z
  rw [hp] at ho
  cases ho
theorem Grow.rfl' {fp : List Addr} : Grow H fp fp := fun x hx => .inl hx
theorem addTo_feet (b dn dw : Addr) (rs : List Ring) (n : Nat) (w : List Nat) : feet b dn dw (addTo rs n w) = feet b dn dw rs := by
  unfold feet
  rw [addTo_at]
theorem keep_feet {b dn dw : Addr} {rs : List Ring} {n : Nat} {l : List (List Nat)} : ∀ x ∈ feet b dn dw (keepR (setW rs n l)), x ∈ feet b dn dw rs := fun x hx => by
  unfold feet at hx ⊢
  simp only [List.mem_cons, List.mem_map] at hx ⊢
  rcases hx with h | h | h | ⟨s, hs, rfl⟩
  · exact .inl h
  · exact .inr (.inl h)
  · exact .inr (.inr (.inl h))
  · obtain ⟨s0, h0, _, _, h3, _⟩ := setW_mem (List.mem_filter.mp hs).1
    exact .inr (.inr (.inr ⟨s0, h0, h3.symm⟩))
theorem p_k12_told (h : sp_k12_told g vs H Q E) : t_k12_told g (D0 Q) (st0 5 vs) H := by
  obtain ⟨o, rc, h⟩ := h
  have err : ∀ (u v w : V) (D : Addr) (i : Nat) (H1 : Hp), ErrOk g D i → i < 6 → ErrW g D → (∀ H', Ex H1 H' → Q (.str (ST (markN i))) H') → WE (wAsE g.K (.ref g.cWordError) 4 (fun _ _ _ => tAsg (tVar 4) (gName 3)) (fun _ _ _ _ => False)
      { nx := tSeq (tIfS (tB (tCB (rIsU g.K) (tCons (tVar 3) (tCons (tC (.ref g.cWordError)) tNil)))) (tRet (tCall (sp_law_mark g) [] E0 (tCons (tVar 3) tNil))) tNext) (tRet (tVar 3)) { nx := fun x H' => Q V.non H', rt := Q }, rt := Q }) [some u, some v, some w, none, none] (.ref D) none H1 :=
    fun u v w D i H1 oe hi hw q => x_kept oe.e (by simp) fun a H2 e2 ha => x_seq (x_marked12 rfl ha oe.m hi hw fun H3 e3 => q _ (Ex.trs e2 e3))
  rcases h with ⟨b, dn, dw, rs, nx, own, way, w, rfl, hway, hw, hB, ok, lk, hlen, q⟩ | ⟨b, dn, dw, rs, nx, n, rfl, hB, ok, hor⟩ | ⟨b, dn, dw, rs, nx, way, v, rfl, hway, hB, hv, q⟩
  · show t_k12_told g (D0 Q) [some (.ref b), some (.int (way : Int)), some (.str (ST w)), none, none] H
    unfold t_k12_told
    obtain ⟨sm1, sm2⟩ := lk.small ok
    walk_at "y"
    rcases (by omega : way = 0 ∨ way = 1 ∨ way = 2 ∨ way = 3) with rfl | rfl | rfl | rfl
    · refine x_it (by decide) ?_
      walk_at "y"
      refine x_bmV (by decide +kernel) (by decide +kernel) (by decide +kernel) hB (tv0 rfl) ?_
      walk_at "y"
      refine ⟨rc, .inl ⟨b, dn, dw, rs, nx, w, rfl, hw, hB, ok, by omega, fun r hr => by have := sm2 r hr; omega, ?_⟩⟩
      cases hI : isIn own w with
      | true =>
        obtain ⟨r, hr, hf, hin⟩ := (isIn_ring ok lk).mp hI
        refine .inl ⟨r, hr, hf, hin, fun H1 e1 => err _ _ _ _ 5 H1 o.t (by decide) o.wt fun H2 e2 => ?_⟩
        unfold dueF at q
        simp only [hI, if_true] at q
        have e := Ex.trs e1 e2
        exact q _ rs H2 rfl (fun p z => nomatch z) (hB.ex e) ok lk (Fr.of e) Grow.rfl'
      | false =>
        have hnot : ∀ r ∈ rs, r.form = minT w → w ∉ r.ws := fun r hr hf hin => by
          rw [(isIn_ring ok lk).mpr ⟨r, hr, hf, hin⟩] at hI
          cases hI
        unfold dueF at q
        simp only [hI] at q
        by_cases hex : ∃ r ∈ rs, r.form = minT w
        · obtain ⟨r, hr, hf⟩ := hex
          rw [ringOf_some ok lk hr hf] at q
          refine .inr (.inl ⟨r, hr, hf, hnot r hr hf, fun H1 hB1 hF1 => ?_⟩)
          walk_at "y"
          refine x_isTW (.base (.int _)) o.n.i ?_
          walk_at "y"
          exact q _ _ _ rfl (fun p z => nomatch z) hB1 (ok.add hr hw hf) (lk.add hr w) hF1 (by rw [addTo_feet]; exact Grow.rfl')
        · have hno : ∀ r ∈ rs, r.form ≠ minT w := fun r hr z => hex ⟨r, hr, z⟩
          rw [ringOf_none ok lk hno] at q
          refine .inr (.inr ⟨hno, fun a H1 na hB1 hF1 => ?_⟩)
          walk_at "y"
          refine x_isTW (.base (.int _)) o.n.i ?_
          walk_at "y"
          refine q _ _ _ rfl (fun p z => nomatch z) hB1 (ok.new hw hno) (lk.new ok.lt _ w) hF1 fun x hx => ?_
          unfold feet at hx ⊢
          rw [List.map_append] at hx
          simp only [List.mem_cons, List.mem_append, List.map_cons, List.map_nil, List.not_mem_nil, or_false] at hx ⊢
          rcases hx with hx | hx | hx | hx | hx
          · exact .inl (.inl hx)
          · exact .inl (.inr (.inl hx))
          · exact .inl (.inr (.inr (.inl hx)))
          · exact .inl (.inr (.inr (.inr hx)))
          · exact .inr (by rw [hx]; exact na)
    · refine x_if0 (by decide) ?_
      walk_at "y"
      refine x_it (by decide) ?_
      walk_at "y"
      refine x_bmV (by decide +kernel) (by decide +kernel) (by decide +kernel) hB (tv0 rfl) ?_
      walk_at "y"
      refine ⟨rc, .inl ⟨b, dn, dw, rs, nx, w, rfl, hw, hB, ok, by omega, fun r hr => by have := sm2 r hr; omega, ?_⟩⟩
      cases hI : isIn own w with
      | true =>
        obtain ⟨r, hr, hf, hin⟩ := (isIn_ring ok lk).mp hI
        unfold dueF at q
        simp only [hI, if_true, ringOf_some ok lk hr hf] at q
        refine .inl ⟨r, hr, hf, hin, fun H1 hB1 hF1 => ?_⟩
        walk_at "y"
        refine x_isTW (.base (.int _)) o.n.i ?_
        walk_at "y"
        exact q _ _ _ rfl (fun p z => nomatch z) hB1 (ok.take r.num w hr rfl) (lk.take ok.up hr w) hF1 fun x hx => .inl (keep_feet x hx)
      | false =>
        have hnot : ∀ r ∈ rs, r.form = minT w → w ∉ r.ws := fun r hr hf hin => by
          rw [(isIn_ring ok lk).mpr ⟨r, hr, hf, hin⟩] at hI
          cases hI
        unfold dueF at q
        simp only [hI] at q
        refine .inr ⟨hnot, fun H1 e1 => err _ _ _ _ 4 H1 o.r (by decide) o.wr fun H2 e2 => ?_⟩
        have e := Ex.trs e1 e2
        exact q _ rs H2 rfl (fun p z => nomatch z) (hB.ex e) ok lk (Fr.of e) Grow.rfl'
    · refine x_if0 (by decide) ?_
      walk_at "y"
      refine x_if0 (by decide) ?_
      walk_at "y"
      refine x_it (by decide) ?_
      walk_at "y"
      refine x_bmV (by decide +kernel) (by decide +kernel) (by decide +kernel) hB (tv0 rfl) ?_
      walk_at "y"
      unfold dueF at q
      by_cases hex : ∃ r ∈ rs, r.form = minT w
      · obtain ⟨r, hr, hf⟩ := hex
        simp only [ringOf_some ok lk hr hf] at q
        refine ⟨rc, .inl ⟨b, dn, dw, rs, nx, w, rfl, hw, hB, ok, .inl ⟨r, hr, hf, fun H1 e1 => ?_⟩⟩⟩
        walk_at "y"
        refine x_isTW (.base (.int _)) o.n.i ?_
        walk_at "y"
        exact q _ rs H1 rfl (fun p z => nomatch z) (hB.ex e1) ok lk (Fr.of e1) Grow.rfl'
      · have hno : ∀ r ∈ rs, r.form ≠ minT w := fun r hr z => hex ⟨r, hr, z⟩
        simp only [ringOf_none ok lk hno] at q
        refine ⟨rc, .inl ⟨b, dn, dw, rs, nx, w, rfl, hw, hB, ok, .inr ⟨hno, fun H1 e1 => ?_⟩⟩⟩
        walk_at "y"
        refine x_isTW (.base .non) o.n.n ?_
        walk_at "y"
        exact q _ rs H1 rfl (fun p z => nomatch z) (hB.ex e1) ok lk (Fr.of e1) Grow.rfl'
    · refine x_if0 (by decide) ?_
      walk_at "y"
      refine x_if0 (by decide) ?_
      walk_at "y"
      refine x_if0 (by decide) ?_
      walk_at "y"
      refine x_it (by decide) ?_
      walk_at "y"
      refine x_bmV (by decide +kernel) (by decide +kernel) (by decide +kernel) hB (tv0 rfl) ?_
      walk_at "y"
      unfold dueF at q
      by_cases hex : ∃ r ∈ rs, r.form = minT w
      · obtain ⟨r, hr, hf⟩ := hex
        simp only [ringOf_some ok lk hr hf, others_eq lk hr w] at q
        refine ⟨rc, .inl ⟨b, dn, dw, rs, nx, w, rfl, hw, hB, ok, fun r hr => by have := sm2 r hr; omega, .inl ⟨r, hr, hf, fun p H1 np e1 hp => ?_⟩⟩⟩
        walk_at "y"
        refine x_isTW (.base (.lst hp)) o.n.l ?_
        walk_at "y"
        exact q _ rs H1 ⟨p, rfl, np, hp⟩ (fun p' z => by cases z; exact feet_no hB np) (hB.ex e1) ok lk (Fr.of e1) Grow.rfl'
      · have hno : ∀ r ∈ rs, r.form ≠ minT w := fun r hr z => hex ⟨r, hr, z⟩
        simp only [ringOf_none ok lk hno] at q
        refine ⟨rc, .inl ⟨b, dn, dw, rs, nx, w, rfl, hw, hB, ok, fun r hr => by have := sm2 r hr; omega, .inr ⟨hno, fun p H1 np e1 hp => ?_⟩⟩⟩
        walk_at "y"
        refine x_isTW (.base (.lst hp)) o.n.l ?_
        walk_at "y"
        exact q _ rs H1 ⟨p, rfl, np, hp⟩ (fun p' z => by cases z; exact feet_no hB np) (hB.ex e1) ok lk (Fr.of e1) Grow.rfl'
  · show t_k12_told g (D0 Q) [some (.ref b), some (.int 4), some (.int n), none, none] H
    unfold t_k12_told
    walk_at "y"
    refine x_if0 (by decide) ?_
    walk_at "y"
    refine x_if0 (by decide) ?_
    walk_at "y"
    refine x_if0 (by decide) ?_
    walk_at "y"
    refine x_if0 (by decide) ?_
    walk_at "y"
    refine x_bmV (by decide +kernel) (by decide +kernel) (by decide +kernel) hB (tv0 rfl) ?_
    walk_at "y"
    rcases hor with ⟨r, hr, hn, q⟩ | ⟨hno, q⟩
    · refine ⟨rc, b, dn, dw, rs, nx, n, rfl, hB, ok, .inl ⟨r, hr, hn, fun p H1 np e1 hp => ?_⟩⟩
      walk_at "y"
      refine x_isTW (.base (.lst hp)) o.n.l ?_
      walk_at "y"
      exact q p H1 np e1 hp
    · exact ⟨rc, b, dn, dw, rs, nx, n, rfl, hB, ok, .inr ⟨hno, fun H1 e1 => err _ _ _ _ 4 H1 o.r (by decide) o.wr fun H2 e2 => q _ (Ex.trs e1 e2)⟩⟩
  · show t_k12_told g (D0 Q) [some (.ref b), some (.int (way : Int)), some v, none, none] H
    unfold t_k12_told
    walk_at "y"
    rcases (by omega : way = 0 ∨ way = 1 ∨ way = 2 ∨ way = 3) with rfl | rfl | rfl | rfl
    · refine x_it (by decide) ?_
      walk_at "y"
      refine x_bmV (by decide +kernel) (by decide +kernel) (by decide +kernel) hB (tv0 rfl) ?_
      walk_at "y"
      exact ⟨rc, .inr ⟨b, v, rfl, hv, fun H1 e1 => err _ _ _ _ 0 H1 o.w (by decide) o.ww fun H2 e2 => q _ (Ex.trs e1 e2)⟩⟩
    · refine x_if0 (by decide) ?_
      walk_at "y"
      refine x_it (by decide) ?_
      walk_at "y"
      refine x_bmV (by decide +kernel) (by decide +kernel) (by decide +kernel) hB (tv0 rfl) ?_
      walk_at "y"
      exact ⟨rc, .inr ⟨b, v, rfl, hv, fun H1 e1 => err _ _ _ _ 0 H1 o.w (by decide) o.ww fun H2 e2 => q _ (Ex.trs e1 e2)⟩⟩
    · refine x_if0 (by decide) ?_
      walk_at "y"
      refine x_if0 (by decide) ?_
      walk_at "y"
      refine x_it (by decide) ?_
      walk_at "y"
      refine x_bmV (by decide +kernel) (by decide +kernel) (by decide +kernel) hB (tv0 rfl) ?_
      walk_at "y"
      exact ⟨rc, .inr ⟨b, v, dn, dw, rs, nx, rfl, hB, hv, fun H1 e1 => err _ _ _ _ 0 H1 o.w (by decide) o.ww fun H2 e2 => q _ (Ex.trs e1 e2)⟩⟩
    · refine x_if0 (by decide) ?_
      walk_at "y"
      refine x_if0 (by decide) ?_
      walk_at "y"
      refine x_if0 (by decide) ?_
      walk_at "y"
      refine x_it (by decide) ?_
      walk_at "y"
      refine x_bmV (by decide +kernel) (by decide +kernel) (by decide +kernel) hB (tv0 rfl) ?_
      walk_at "y"
      exact ⟨rc, .inr ⟨b, v, dn, dw, rs, nx, rfl, hB, hv, fun H1 e1 => err _ _ _ _ 0 H1 o.w (by decide) o.ww fun H2 e2 => q _ (Ex.trs e1 e2)⟩⟩
end
end RW

/-! K12C: a book and its account in the heap; _law_stands. -/
namespace RW
open PySem PySem.Spec PyProof.Rows L2
open Evl (Ex ex_l ex_t ex_rd fresh_back)
local macro_rules | `(tactic| walk_at "x") => `(tactic| first
  | ((with_reducible apply x_var); exact rfl)
  | with_reducible refine x_c ?_
  | with_reducible refine x_op ?_
  | with_reducible refine x_un ?_
  | with_reducible refine x_neg ?_
  | with_reducible refine x_addI ?_
  | with_reducible refine x_subI ?_
  | with_reducible refine x_ltI ?_
  | with_reducible refine x_ltS ?_
  | with_reducible refine x_leI ?_
  | with_reducible refine x_leS ?_
  | with_reducible refine x_gtI ?_
  | with_reducible refine x_gtS ?_
  | with_reducible refine x_geI ?_
  | with_reducible refine x_eqI ?_
  | with_reducible refine x_eqS ?_
  | with_reducible refine x_eqB ?_
  | with_reducible refine x_neI ?_
  | with_reducible refine x_neS ?_
  | with_reducible refine x_isN ?_
  | with_reducible refine x_isB ?_
  | with_reducible refine x_isNotN ?_
  | with_reducible refine x_isNotB ?_
  | with_reducible refine x_inS ?_
  | with_reducible refine x_sl ?_
  | with_reducible refine x_part ?_
  | with_reducible refine x_nopart ?_
  | with_reducible refine x_rev ?_
  | with_reducible refine x_nil ?_
  | with_reducible refine x_cons ?_
  | with_reducible refine x_lst0 ?_
  | with_reducible refine x_tup0 ?_
  | with_reducible refine x_call0 ?_
  | with_reducible refine x_callS ?_
  | with_reducible refine x_cb ?_
  | with_reducible refine x_m1 ?_
  | with_reducible refine x_m1s ?_
  | with_reducible refine x_bm ?_
  | with_reducible refine x_bm0 ?_
  | with_reducible refine x_tyS ?_
  | with_reducible refine x_max2 ?_
  | with_reducible refine x_min2 ?_
  | with_reducible refine x_seq ?_
  | with_reducible refine x_asg ?_
  | with_reducible refine x_asgG ?_
  | with_reducible refine x_ret ?_
  | with_reducible refine x_retN ?_
  | with_reducible refine x_if ?_
  | with_reducible refine x_next ?_
  | with_reducible refine x_drop ?_
  | with_reducible refine x_break ?_
  | with_reducible refine x_cont ?_
  | with_reducible refine x_par ?_
  | with_reducible refine x_par2 ?_
  | ((with_reducible apply x_aug); exact rfl)
  | with_reducible refine x_ip ?_
  | with_reducible refine x_test ?_
  | with_reducible refine x_tB ?_
  | with_reducible refine x_bl ?_
  | with_reducible refine x_and ?_
  | with_reducible refine x_or ?_
  | with_reducible refine x_not ?_
  | with_reducible refine x_andV ?_
  | with_reducible refine x_orV ?_
  | with_reducible refine x_notV ?_
  | with_reducible refine x_ifV ?_
  | with_reducible refine x_chain ?_
  | with_reducible refine x_intA ?_
  | with_reducible refine x_strA ?_
  | with_reducible refine x_yes ?_
  | with_reducible refine iteT ?_
  | with_reducible refine iteF ?_
  | with_reducible refine x_forRng1 ?_
  | with_reducible refine x_forRng2 ?_
  | with_reducible refine x_forLst ?_
  | with_reducible refine x_forU ?_
  | with_reducible refine x_lcRng1 ?_
  | with_reducible refine x_lcRng2 ?_
  | with_reducible refine x_lcLst ?_
  | with_reducible refine x_lcU ?_
  | with_reducible refine x_uS ?_
  | with_reducible refine x_gcons ?_
  | with_reducible refine x_gnil ?_
  -- with side conditions
  | ((with_reducible refine x_addS ?hs ?_); (case hs => walk_at "sz"))
  | ((with_reducible refine x_divI ?hs ?ht ?_); (case hs => walk_at "sz"); (case ht => walk_at "sz"))
  | ((with_reducible refine x_modI ?hs ?_); (case hs => walk_at "sz"))
  | ((with_reducible refine x_mulI ?hs ?_); (case hs => walk_at "sz"))
  | ((with_reducible refine x_lenS ?hs ?_); (case hs => walk_at "sz"))
  | ((with_reducible refine x_slSlo ?hs ?_); (case hs => walk_at "sz"))
  | ((with_reducible refine x_slShi ?hs ?_); (case hs => walk_at "sz"))
  | ((with_reducible refine x_slSlohi ?hs ?_); (case hs => walk_at "sz"))
  | ((with_reducible refine x_slShiNeg ?hs ?_); (case hs => walk_at "sz"))
  | ((with_reducible refine x_slSloI ?ht ?hs ?_); (case ht => walk_at "sz"); (case hs => walk_at "sz"))
  | ((with_reducible refine x_slShiI ?ht ?hs ?_); (case ht => walk_at "sz"); (case hs => walk_at "sz"))
  | ((with_reducible refine x_rng1 ?hs ?ht ?_); (case hs => walk_at "sz"); (case ht => walk_at "sz"))
  | ((with_reducible refine x_rng2 ?hs ?_); (case hs => walk_at "sz"))
  | ((with_reducible refine x_newL ?hs ?_); (case hs => walk_at "sz"); intro px Hx npx ex hpx)
  | ((with_reducible refine x_newT ?hs ?_); (case hs => walk_at "sz"); intro px Hx npx ex hpx)
  | ((with_reducible apply x_lenL); (walk_at "hp"))
  | ((with_reducible apply x_refL); (walk_at "hp"))
  | ((with_reducible apply x_uL); (walk_at "hp"))
  | ((with_reducible apply x_tyL); (walk_at "hp"))
  )
local macro_rules | `(tactic| walk_at "xs") => `(tactic| repeat (walk_at "x"))
/- sizes, bounds -/
local macro_rules | `(tactic| walk_at "sz") => `(tactic| first
  | with_reducible assumption
  | (rw [sizeLine_eq]; first | omega | (simp only [List.length_cons, List.length_nil, List.length_append, List.length_map, List.length_reverse, List.length_range, List.length_drop, List.length_take, List.length_dropLast]; omega))
  | omega
  | (unfold CMul; omega)
  | (simp only [List.length_cons, List.length_nil, List.length_append, List.length_map, List.length_reverse, List.length_range, List.length_drop, List.length_take, List.length_dropLast]; omega))
/- what stands in the heap -/
local macro_rules | `(tactic| walk_at "hp") => `(tactic| first
  | assumption
  | ((with_reducible apply SqL.of); walk_at "hp")
  | ((with_reducible apply SqT.of); walk_at "hp")
  | ((with_reducible apply Ex.at_); assumption; walk_at "hp")
  | ((with_reducible apply ex_l); assumption; walk_at "hp")
  | ((with_reducible apply ex_t); assumption; walk_at "hp"))
local macro_rules | `(tactic| walk_at "ex") => `(tactic| first
  | assumption
  | exact Ex.rfl'
  | (refine Ex.trs ?_ (by assumption); walk_at "ex"))
/- an item at a place within: what is left speaks of the item -/
local macro_rules | `(tactic| walk_at "ix") => `(tactic| ((with_reducible apply x_ixLm); (walk_at "hp"); (walk_at "sz"); (walk_at "sz")))
local macro_rules | `(tactic| walk_at "is") => `(tactic| ((with_reducible apply x_ixSm); (walk_at "sz"); (walk_at "sz"); (walk_at "sz")))

local macro_rules | `(tactic| walk_at "y") => `(tactic| repeat (walk_at "x"))
structure Side where
  b : Addr
  dn : Addr
  dw : Addr
  o : Addr
  wl : Addr
  rs : List Ring
  nx : Nat
  ts : List Addr
  own : Own
structure SideAt (g : G) (H : Hp) (S : Side) : Prop where
  bk : BookAt g H S.b S.dn S.dw S.rs S.nx
  ok : BookOk S.rs S.nx
  on : OwnAt H S.o S.wl S.ts S.own S.nx
  lk : Link S.own S.rs
  dj : ∀ x ∈ feet S.b S.dn S.dw S.rs, x ≠ S.o ∧ x ≠ S.wl
theorem SideAt.ex {g : G} {H H' : Hp} {S : Side} (h : SideAt g H S) (e : Ex H H') : SideAt g H' S := ⟨h.bk.ex e, h.ok, h.on.ex e, h.lk, h.dj⟩
theorem SideAt.words {g : G} {H : Hp} {S : Side} (h : SideAt g H S) : ∀ e ∈ S.own, Word e.1 := fun e he => by
  obtain ⟨r, hr, hn⟩ := h.lk.num e he
  exact (h.ok.wf r hr _ (h.lk.mem he hr hn)).1
/-! ### plain -/
theorem rising_int : ∀ {A B : List Int}, A.Pairwise (· < ·) → B.Pairwise (· < ·) → (∀ k, k ∈ A ↔ k ∈ B) → A = B
  | [], [], _, _, _ => rfl
  | [], b :: B, _, _, h => absurd ((h b).mpr List.mem_cons_self) (by simp)
  | a :: A, [], _, _, h => absurd ((h a).mp List.mem_cons_self) (by simp)
  | a :: A, b :: B, hA, hB, h => by
    obtain ⟨a1, a2⟩ := List.pairwise_cons.mp hA
    obtain ⟨b1, b2⟩ := List.pairwise_cons.mp hB
    have e : a = b := by
      rcases List.mem_cons.mp ((h a).mp List.mem_cons_self) with h1 | h1
      · exact h1
      · rcases List.mem_cons.mp ((h b).mpr List.mem_cons_self) with h2 | h2
        · exact h2.symm
        · have := a1 b h2
          have := b1 a h1
          omega
    subst e
    congr 1
    refine rising_int a2 b2 fun k => ⟨fun hk => ?_, fun hk => ?_⟩
    · rcases List.mem_cons.mp ((h k).mp (List.mem_cons_of_mem _ hk)) with h1 | h1
      · have := a1 k hk
        omega
      · exact h1
    · rcases List.mem_cons.mp ((h k).mpr (List.mem_cons_of_mem _ hk)) with h1 | h1
      · have := b1 k hk
        omega
      · exact h1
/-- the rings' numbers -/
def nums (rs : List Ring) : List Int := rs.map fun r => (r.num : Int)
theorem nums_up {rs : List Ring} (h : rs.Pairwise fun a b => a.num < b.num) : (nums rs).Pairwise (· < ·) := by
  unfold nums
  rw [List.pairwise_map]
  exact h.imp fun h => by omega
theorem nums_mem {own : Own} {rs : List Ring} {nx : Nat} (ok : BookOk rs nx) (lk : Link own rs) (k : Int) : k ∈ nums rs ↔ k ∈ own.map fun e => (e.2 : Int) := by
  unfold nums
  rw [List.mem_map, List.mem_map]
  constructor
  · rintro ⟨r, hr, rfl⟩
    cases h : r.ws with
    | nil => exact absurd h (ok.ne r hr)
    | cons v t => exact ⟨_, lk.of hr (by rw [h]; exact List.mem_cons_self), rfl⟩
  · rintro ⟨e, he, rfl⟩
    obtain ⟨r, hr, hn⟩ := lk.num e he
    exact ⟨r, hr, by rw [hn]⟩
theorem inV_ints (k : Int) : ∀ ns : List Int, inV (.int k) (ixs ns) = decide (k ∈ ns)
  | [] => by rfl
  | n :: ns => by
    have ih := inV_ints k ns
    unfold inV at ih ⊢
    show (eqV (.int n) (.int k) || (ixs ns).any fun y => eqV y (.int k)) = _
    rw [ih]
    show ((n == k) || decide (k ∈ ns)) = _
    rw [Bool.eq_iff_iff, Bool.or_eq_true, beq_iff_eq, decide_eq_true_eq, decide_eq_true_eq, List.mem_cons]
    exact ⟨fun h => h.elim (fun h => .inl h.symm) .inr, fun h => h.elim (fun h => .inl h.symm) .inr⟩
theorem flat_ints : ∀ ns : List Int, (ixs ns).all flatV = true
  | [] => rfl
  | _ :: ns => by
    show (true && (ixs ns).all flatV) = true
    rw [flat_ints ns]
    rfl
def dpr (r : Ring) : PyData := .tuple [.int (r.num : Int), .str (ST r.form)]
theorem dprs_lay : ∀ {rs : List Ring}, (∀ r ∈ rs, Okc r.form) → PyData.canLayAll0 (rs.map dpr) = true
  | [], _ => rfl
  | r :: rs, h => by
    show (PyData.canLay0 (dpr r) && PyData.canLayAll0 (rs.map dpr)) = true
    rw [dprs_lay fun s hs => h s (List.mem_cons_of_mem _ hs), Bool.and_true]
    unfold dpr PyData.canLay0
    show (PyData.canLay0 (.int (r.num : Int)) && (PyData.canLay0 (.str (ST r.form)) && true)) = true
    have : PyData.canLay0 (.str (ST r.form)) = true := by
      unfold PyData.canLay0
      exact h r List.mem_cons_self
    rw [this]
    rfl
theorem dprs_depth : ∀ rs : List Ring, PyData.depthAll (rs.map dpr) ≤ 1
  | [] => Nat.zero_le _
  | r :: rs => by
    show max (PyData.depth (dpr r)) (PyData.depthAll (rs.map dpr)) ≤ 1
    have h1 := dprs_depth rs
    have h2 : PyData.depth (dpr r) = 1 := rfl
    omega
theorem dprs_shaped {rs : List Ring} (h : ∀ r ∈ rs, Okc r.form) : SeqAt.shaped (.list (rs.map dpr)) = true := by
  unfold SeqAt.shaped
  rw [Bool.and_eq_true]
  refine ⟨?_, ?_⟩
  · show PyData.canLay0 (.list (rs.map dpr)) = true
    unfold PyData.canLay0
    exact dprs_lay h
  · have := dprs_depth rs
    show decide (PyData.depthAll (rs.map dpr) + 1 ≤ 64) = true
    exact decide_eq_true (by omega)
theorem dprs_eqv : ∀ rs : List Ring, PyData.eqvAll (rs.map dpr) (rs.map dpr) = true
  | [] => rfl
  | r :: rs => by
    show ((((r.num : Int) == (r.num : Int)) && ((ST r.form == ST r.form) && true)) && PyData.eqvAll (rs.map dpr) (rs.map dpr)) = true
    rw [dprs_eqv rs, beq_self_eq_true, beq_self_eq_true]
    rfl
section
variable {g : G} {vs : List V} {H : Hp} {Q : VK} {E : XK} {K : Frag}
theorem dpAll_prs : ∀ {ts : List Addr} {rs : List Ring}, ts.length = rs.length → (∀ (i : Nat) (t : Addr) (r : Ring), ts[i]? = some t → rs[i]? = some r → H t = some (.tup (prs r))) → DpAll K H (ts.map V.ref) (rs.map dpr)
  | [], [], _, _ => .nil
  | [], _ :: _, h, _ => by simp at h
  | _ :: _, [], h, _ => by simp at h
  | t :: ts, r :: rs, hl, h => .cons (.tup (SqT.of (h 0 t r rfl rfl)) (.cons (.int _) (.cons (.str _) .nil))) (dpAll_prs (by simpa using hl) fun i t' r' h1 h2 => h (i + 1) t' r' (by simpa using h1) (by simpa using h2))
/-- the items of the account's list -/
theorem own_item {o wl : Addr} {ts : List Addr} {own : Own} {nx : Nat} (hO : OwnAt H o wl ts own nx) {i : Nat} {H' : Hp} {x : V} {H'' : Hp} (hi : i < own.length) (e : Ex H H') (hy : (Itl K wl).yld i H' x H'') : ∃ t f, x = .ref t ∧ H'' = H' ∧ own[i]? = some f ∧ H' t = some (.tup (pr2 f)) := by
  obtain ⟨rfl, hx⟩ := hy
  have h1 := hx _ (SqL.of (e _ _ hO.ol))
  have hti : ts[i]? = some (ts[i]'(by rw [hO.tl]; exact hi)) := List.getElem?_eq_getElem _
  have hei : own[i]? = some own[i] := List.getElem?_eq_getElem hi
  rw [List.getElem?_map, hti] at h1
  obtain rfl := Option.some.inj h1
  exact ⟨_, _, rfl, rfl, hei, e _ _ (hO.tt i _ _ hti hei)⟩
theorem own_go {o wl : Addr} {ts : List Addr} {own : Own} {nx : Nat} (hO : OwnAt H o wl ts own nx) : ∀ (i : Nat) (H' : Hp), Ex H H' → i < own.length → (Itl K wl).go i H' := fun i H' e hi => ⟨_, .ref (ts[i]'(by rw [hO.tl]; exact hi)), SqL.of (e _ _ hO.ol), by
  rw [List.getElem?_map, List.getElem?_eq_getElem (by rw [hO.tl]; exact hi)]
  rfl⟩
theorem own_stop {o wl : Addr} {ts : List Addr} {own : Own} {nx : Nat} (hO : OwnAt H o wl ts own nx) : ∀ H', Ex H H' → (Itl K wl).stop own.length H' := fun H' e => ⟨_, SqL.of (e _ _ hO.ol), by rw [List.length_map, hO.tl]; exact Nat.le_refl _⟩
/-! ### _law_stands -/
def sp_law_stands (g : G) : Sp := fun vs H Q _ => E12 g ∧ RC g ∧ ∃ S : Side, vs = [.ref S.b, .ref S.o] ∧ SideAt g H S ∧ S.own.length ≤ 62 ∧ S.nx ≤ 1000 ∧ ∀ H', Ex H H' → Q (.bl true) H'
/-- _law_stands: slots _law_book, _law_own, _law_numbers, _law_number, _law_due_here, _law_words, _law_found, _law_forms, _law_word, _law_other -/
def t_law_stands (g : G) : TS :=
  tSeq (tAsg (tSortSet g.K (tLc (iU g.K (tDGet (tVar 1) (tC (.str (ST [119, 111, 114, 100, 115]))))) (gTup g.K 2 (gCons (gName 8) (gCons (gName 3) gNil))) tYes (tVar 3) [8, 3])) (gName 2))
    (tSeq (tFor (iRng1 (tCons (tDGet (tVar 1) (tC (.str (ST [110, 101, 120, 116])))) tNil)) (gName 3) (tIfS (tAnd (tTest (tOp (uNotIn g.K) (tVar 3) (tVar 2))) (tTest (tOp (uNe g.K) (tCall (sp_k12_told g) [] E0 (tCons (tVar 0) (tCons (tC (.int 4)) (tCons (tVar 3) tNil)))) (tC (.str (ST [114, 105, 110, 103])))))) (tRet (tC (.bl false))) tNext))
    (tSeq (tAsg (tLst tNil) (gName 4))
    (tSeq (tFor (iU g.K (tVar 2)) (gName 3) (tSeq (tAsg (tLc (iU g.K (tDGet (tVar 1) (tC (.str (ST [119, 111, 114, 100, 115]))))) (gTup g.K 2 (gCons (gName 8) (gCons (gName 9) gNil))) (tTest (tOp (uEq g.K) (tVar 9) (tVar 3))) (tVar 8) [8, 9]) (gName 5))
    (tSeq (tDrop (tBM g.K "list" rAppend (tVar 4) (tCons (tTup (tCons (tVar 3) (tCons (tCB (rMinU g.K) (tCons (tCall (sp_law_turnings g) [] E0 (tCons (tOp (rIx g.K) (tVar 5) (tC (.int 0))) tNil)) tNil)) tNil))) tNil)))
    (tSeq (tAsg (tCall (sp_k12_told g) [] E0 (tCons (tVar 0) (tCons (tC (.int 4)) (tCons (tVar 3) tNil)))) (gName 6))
    (tSeq (tIfS (tTest (tOp (uNe g.K) (tVar 6) (tVar 5))) (tRet (tC (.bl false))) tNext)
    (tDrop (tBM g.K "list" rAppend (tVar 6) (tCons (tC (.str (ST [97]))) tNil))))))))
    (tSeq (tAsg (tMeth g.cRings "forms" (sp_Rings_forms g) [] E0 (tVar 0) tNil) (gName 7))
    (tSeq (tIfS (tOr (tNot (tB (tCB (rIsU g.K) (tCons (tVar 7) (tCons (tC (.ty "list")) tNil))))) (tOr (tTest (tOp (uNe g.K) (tVar 7) (tVar 4))) (tNot (tB (tCall (sp_k12_whole g) [] E0 (tCons (tMeth g.cRings "many" (sp_Rings_many g) [] E0 (tVar 0) tNil) (tCons (tCB (rLen g.K) (tCons (tDGet (tVar 1) (tC (.str (ST [119, 111, 114, 100, 115])))) tNil)) tNil))))))) (tRet (tC (.bl false))) tNext)
    (tSeq (tDrop (tBM g.K "list" rAppend (tVar 7) (tCons (tTup (tCons (tC (.int 0)) (tCons (tC (.str (ST [97]))) tNil))) tNil)))
    (tRet (tAndV (tOp (uEq g.K) (tCall (sp_k12_told g) [] E0 (tCons (tVar 0) (tCons (tC (.int 4)) (tCons (tDGet (tVar 1) (tC (.str (ST [110, 101, 120, 116])))) tNil)))) (tC (.str (ST [114, 105, 110, 103])))) (tOp (uEq g.K) (tCall (sp_k12_told g) [] E0 (tCons (tVar 0) (tCons (tC (.int 4)) (tCons (tUn (rU fun i => .int (-i)) (tC (.int 1))) tNil)))) (tC (.str (ST [114, 105, 110, 103]))))))))))))
theorem c_told4 (o : E12 g) (rc : RC g) {b dn dw : Addr} {rs : List Ring} {nx : Nat} {r : Ring} (hB : BookAt g H b dn dw rs nx) (ok : BookOk rs nx) (hr : r ∈ rs) (q : ∀ p H', H p = none → Ex H H' → H' p = some (.lst (tx r.ws)) → Q (.ref p) H') : sp_k12_told g [.ref b, .int 4, .int (r.num : Int)] H Q E := ⟨o, rc, .inr (.inl ⟨b, dn, dw, rs, nx, _, rfl, hB, ok, .inl ⟨r, hr, rfl, q⟩⟩)⟩
theorem c_told4N (o : E12 g) (rc : RC g) {b dn dw : Addr} {rs : List Ring} {nx : Nat} {n : Int} (hB : BookAt g H b dn dw rs nx) (ok : BookOk rs nx) (hno : ∀ r ∈ rs, (r.num : Int) ≠ n) (q : ∀ H', Ex H H' → Q (.str (ST (markN 4))) H') : sp_k12_told g [.ref b, .int 4, .int n] H Q E := ⟨o, rc, .inr (.inl ⟨b, dn, dw, rs, nx, n, rfl, hB, ok, .inr ⟨hno, q⟩⟩)⟩
theorem p_law_stands (h : sp_law_stands g vs H Q E) : t_law_stands g (D0 Q) (st0 10 vs) H := by
  obtain ⟨o12, rc, ⟨b, dn, dw, o, wl, rs, nx, ts, own⟩, rfl, hS, hlen, hnx, q⟩ := h
  simp only at hlen hnx
  obtain ⟨hB, ok, hO, lk, dj⟩ := id hS
  simp only at hB ok hO lk dj
  obtain ⟨sm1, sm2⟩ := lk.small ok
  show t_law_stands g (D0 Q) [some (.ref b), some (.ref o), none, none, none, none, none, none, none, none] H
  unfold t_law_stands
  walk_at "y"
  -- the numbers
  show tLc _ _ _ _ _ _ _ _
  refine x_lcU (xd_get (x_var rfl (x_c ⟨o, _, rfl, own_w hO, ?_⟩)))
  refine x_uL (SqL.of hO.ol) ?_
  refine lc_opt (n := own.length) (fun i => (own[i]?).bind fun e => some (V.int (e.2 : Int))) (by omega) (own_go hO) (own_stop hO) (fun i H' hi e x H'' hy R R0 r1 r2 => ?_) fun p H1 np e1 hp => ?_
  · obtain ⟨t, f, rfl, rfl, hf, ht⟩ := own_item hO hi e hy
    rw [hf] at r1
    refine x_gtup (xs := pr2 f) ht rfl (x_gcons (x_gcons (x_gnil ⟨rfl, ?_⟩)))
    walk_at "y"
    exact r1 _ _ rfl Ex.rfl'
  rw [range_fm2, filterMap_some] at hp
  refine ⟨p, own.map fun e => (e.2 : Int), rfl, SqL.of (by rw [hp]; unfold ixs; rw [List.map_map]; rfl), by rw [List.length_map]; omega, fun ys pn H2 hup hmem npn e2 hpn => ?_⟩
  obtain rfl : ys = nums rs := rising_int hup (nums_up ok.up) fun k => (hmem k).trans (nums_mem ok lk k).symm
  have eA : Ex H H2 := Ex.trs e1 e2
  have hnl : (nums rs).length = rs.length := List.length_map ..
  have hB2 := hB.ex eA
  have hO2 := hO.ex eA
  clear e1 e2 hp np npn
  walk_at "y"
  refine xd_get (x_var rfl (x_c ⟨o, _, rfl, own_n hO2, ?_⟩))
  walk_at "y"
  refine x_forR (fun i (w : Option V) => [some (.ref b), some (.ref o), some (.ref pn), w, none, none, none, none, none, none]) (fun _ _ H' => Ex H2 H') none rfl Ex.rfl' (fun i w H3 hi e3 => ?_) fun w3 H3 e3 => ?_
  · show tIfS _ _ _ _ [some (.ref b), some (.ref o), some (.ref pn), some (.int (0 + (i : Int))), none, none, none, none, none, none] H3
    rw [Int.zero_add]
    walk_at "y"
    refine x_notinL (SqL.of (e3 _ _ hpn)) rfl (flat_ints _) ?_
    rw [inV_ints]
    walk_at "y"
    refine x_ifnd (fun hni => ?_) fun hin => ?_
    · walk_at "y"
      refine c_told4N o12 rc (hB2.ex e3) ok (fun r hr z => hni (List.mem_map.mpr ⟨r, hr, z⟩)) fun H4 e4 => ?_
      walk_at "y"
      refine x_no (by decide) ?_
      walk_at "y"
      exact ⟨_, rfl, Ex.trs e3 e4⟩
    · walk_at "y"
      exact ⟨_, rfl, e3⟩
  walk_at "y"
  rename_i pd H4 npd e4 hpd
  have eB : Ex H2 H4 := Ex.trs e3 e4
  have npd2 : H2 pd = none := fresh_back e3 npd
  -- ring by ring
  refine x_forL (a := pn) (xs := ixs (nums rs)) (fun k (a : Option V × Option V × Option V) => [some (.ref b), some (.ref o), some (.ref pn), a.1, some (.ref pd), a.2.1, a.2.2, none, none, none])
    (fun k a H' => Ex H2 H' ∧ ∃ us : List Addr, us.length = k ∧ H' pd = some (.lst (us.map V.ref)) ∧ ∀ (i : Nat) (t : Addr) (r : Ring), us[i]? = some t → rs[i]? = some r → H' t = some (.tup (prs r))) (w3, none, none) rfl ⟨eB, [], rfl, hpd, fun i t r h => by simp at h⟩
    (fun k a H' I => SqL.of (I.1 _ _ hpn)) (fun k v a H5 hk I => ?_) fun a H5 I => ?_
  · obtain ⟨e5, us, hul, hpd5, hus⟩ := I
    obtain ⟨r, hr, rfl⟩ : ∃ r, rs[k]? = some r ∧ v = .int (r.num : Int) := by
      unfold ixs nums at hk
      rw [List.getElem?_map, List.getElem?_map] at hk
      cases h3 : rs[k]? with
      | none => rw [h3] at hk; cases hk
      | some r =>
        rw [h3] at hk
        exact ⟨r, rfl, (Option.some.inj hk).symm⟩
    have hrm := List.mem_of_getElem? hr
    have hkl := (List.getElem?_eq_some_iff.mp hr).1
    have hwl := sm2 r hrm
    show tSeq _ _ _ [some (.ref b), some (.ref o), some (.ref pn), some (.int (r.num : Int)), some (.ref pd), a.2.1, a.2.2, none, none, none] H5
    have hO5 := hO2.ex e5
    have hB5 := hB2.ex e5
    walk_at "y"
    refine xd_get (x_var rfl (x_c ⟨o, _, rfl, own_w hO5, ?_⟩))
    refine x_uL (SqL.of hO5.ol) ?_
    refine lc_opt (n := own.length) (fun i => (own[i]?).bind fun e => if decide (e.2 = r.num) = true then some (V.str (ST e.1)) else none) (by omega) (own_go hO5) (own_stop hO5) (fun i H' hi e x H'' hy R R0 r1 r2 => ?_) fun pw H6 npw e6 hpw => ?_
    · obtain ⟨t, f, rfl, rfl, hf, ht⟩ := own_item hO5 hi e hy
      rw [hf] at r1 r2
      refine x_gtup (xs := pr2 f) ht rfl (x_gcons (x_gcons (x_gnil ⟨rfl, ?_⟩)))
      walk_at "y"
      refine x_ifd (fun c => ?_) fun c => ?_
      · walk_at "y"
        exact r1 _ _ (if_pos (decide_eq_true (by omega))) Ex.rfl'
      · exact r2 (if_neg (by rw [decide_eq_false (fun z => c (by rw [z]))]; decide)) _ Ex.rfl'
    have hpw' : H6 pw = some (.lst (tx r.ws)) := by
      rw [hpw, range_fm2]
      congr 2
      rw [lk.ws r hrm]
      unfold tx
      rw [List.map_map, ← List.filterMap_eq_map, ← List.filterMap_eq_filter, List.filterMap_filterMap]
      congr 1
      funext e
      by_cases c : e.2 = r.num <;> simp [Option.guard, c]
    obtain ⟨v0, hv0⟩ : ∃ v0, r.ws[0]? = some v0 := by
      cases h : r.ws with
      | nil => exact absurd h (ok.ne r hrm)
      | cons v t => exact ⟨v, rfl⟩
    obtain ⟨hvw, hvf⟩ := ok.wf r hrm v0 (List.mem_of_getElem? hv0)
    have hvw2 := hvw.2
    have hpd6 := e6 _ _ hpd5
    walk_at "y"
    refine x_ixL (v := .str (ST v0)) (SqL.of hpw') (atI_nat (j := 0) (by unfold tx; rw [List.getElem?_map, hv0]; rfl)) ?_
    walk_at "y"
    refine c_law_turnings (by omega) fun pt H7 npt e7 hpt => ?_
    walk_at "y"
    refine x_minL (SqL.of hpt) (fun z => by
      have := turnsL_len v0
      rw [z] at this
      simp at this
      omega) fun m hm hmin => ?_
    rw [minT_of hm hmin, hvf]
    walk_at "y"
    rename_i t H8 nt e8 ht
    have e58 := Ex.trs e6 (Ex.trs e7 e8)
    refine x_append (e58 _ _ hpd5) (by rw [List.length_map, hul, sizeLine_eq]; omega) ?_
    have npd5 : H2 pd = none := npd2
    have tpd : t ≠ pd := fun z => by rw [z, e58 _ _ hpd5] at ht; cases ht
    have pwpd : pw ≠ pd := fun z => by rw [z, hpd5] at npw; cases npw
    have e9 : Ex H2 (upd H8 pd (.lst (us.map V.ref ++ [.ref t]))) := Evl.Ex.mut (Ex.trs e5 e58) npd5
    have hpd9 : upd H8 pd (.lst (us.map V.ref ++ [.ref t])) pd = some (.lst ((us ++ [t]).map V.ref)) := by rw [upd_same, List.map_append]; rfl
    have hpw9 : upd H8 pd (.lst (us.map V.ref ++ [.ref t])) pw = some (.lst (tx r.ws)) := by
      rw [upd_ne pwpd]
      exact e8 _ _ (e7 _ _ hpw')
    have hus9 : ∀ (i : Nat) (u : Addr) (s : Ring), (us ++ [t])[i]? = some u → rs[i]? = some s → upd H8 pd (.lst (us.map V.ref ++ [.ref t])) u = some (.tup (prs s)) := fun i u s h1 h2 => by
      by_cases c : i < us.length
      · rw [List.getElem?_append_left c] at h1
        have h3 := e58 _ _ (hus i u s h1 h2)
        rw [upd_ne fun z => by rw [z, e58 _ _ hpd5] at h3; cases h3]
        exact h3
      · have hl := (List.getElem?_eq_some_iff.mp h1).1
        rw [List.length_append, List.length_singleton] at hl
        have ei : i = us.length := by omega
        subst ei
        rw [List.getElem?_append_right (Nat.le_refl _), Nat.sub_self] at h1
        obtain rfl : t = u := Option.some.inj h1
        rw [hul, hr] at h2
        obtain rfl := Option.some.inj h2
        rw [upd_ne tpd]
        exact ht
    generalize upd H8 pd (.lst (us.map V.ref ++ [.ref t])) = H9 at *
    walk_at "y"
    refine c_told4 o12 rc (hB2.ex e9) ok hrm fun pf H10 npf e10 hpf => ?_
    walk_at "y"
    have hok : ∀ v ∈ r.ws, Okc v := fun v hv => (ok.wf r hrm v hv).1.1.okc
    refine x_neTx (SqL.of hpf) (SqL.of (e10 _ _ hpw9)) hok hok ?_
    walk_at "y"
    refine x_no (by simp) ?_
    walk_at "y"
    refine x_append hpf (by rw [tx_len, sizeLine_eq]; omega) ?_
    walk_at "y"
    have pfpd : pd ≠ pf := fun z => by rw [← z, hpd9] at npf; cases npf
    refine ⟨(_, _, _), rfl, Evl.Ex.mut (Ex.trs e9 e10) (fresh_back e9 npf), us ++ [t], by rw [List.length_append, hul]; rfl, by rw [upd_ne pfpd]; exact e10 _ _ hpd9, fun i u s h1 h2 => ?_⟩
    have h3 := e10 _ _ (hus9 i u s h1 h2)
    rw [upd_ne fun z => by rw [z, hpf] at h3; cases h3]
    exact h3
  obtain ⟨e5, us, hul, hpd5, hus⟩ := I
  rw [show (ixs (nums rs)).length = rs.length by unfold ixs; rw [List.length_map, hnl]] at hul
  have hB5 := hB2.ex e5
  have hO5 := hO2.ex e5
  walk_at "y"
  refine x_bm_ (by decide +kernel) (by decide +kernel) (by decide +kernel) hB5 (tv0 rfl) ?_
  walk_at "y"
  refine ⟨rc, b, dn, dw, rs, nx, rfl, hB5, ok, by omega, fun fs pf H6 hfl hF npf e6 hpf => ?_⟩
  walk_at "y"
  refine x_isT (.base (.lst hpf)) (by decide +kernel : kitB "list" "list" = some true) ?_
  walk_at "y"
  refine x_if0 rfl ?_
  walk_at "y"
  have hokf : ∀ r ∈ rs, Okc r.form := fun r hr => by
    cases h : r.ws with
    | nil => exact absurd h (ok.ne r hr)
    | cons v t =>
      obtain ⟨h1, h2⟩ := ok.wf r hr v (by rw [h]; exact List.mem_cons_self)
      rw [← h2]
      exact (h1.1.turnsL _ (minT_mem h1.2.1).1).okc
  have hus6 : ∀ (i : Nat) (t : Addr) (r : Ring), us[i]? = some t → rs[i]? = some r → H6 t = some (.tup (prs r)) := fun i t r h1 h2 => e6 _ _ (hus i t r h1 h2)
  refine x_neD (.lst (SqL.of hpf) (dpAll_prs hfl hF)) (.lst (SqL.of (e6 _ _ hpd5)) (dpAll_prs hul hus6)) (dprs_shaped hokf) (dprs_shaped hokf) ?_
  rw [show PyData.eqv (.list (rs.map dpr)) (.list (rs.map dpr)) = true from dprs_eqv rs]
  walk_at "y"
  try with_reducible refine x_if0 rfl ?_
  walk_at "y"
  have hB6 := hB5.ex e6
  have hO6 := hO5.ex e6
  refine x_bm_ (by decide +kernel) (by decide +kernel) (by decide +kernel) hB6 (tv0 rfl) ?_
  walk_at "y"
  refine ⟨rc, b, dn, dw, rs, nx, rfl, hB6, by omega, fun H7 e7 => ?_⟩
  have hO7 := hO6.ex e7
  walk_at "y"
  refine xd_get (x_var rfl (x_c ⟨o, _, rfl, own_w hO7, ?_⟩))
  have hol := hO7.ol
  walk_at "y"
  refine c_k12_whole ?_
  rw [lk.total ok.up, List.length_map, hO.tl, decide_eq_true rfl]
  walk_at "y"
  refine x_no rfl ?_
  walk_at "y"
  rename_i t0 H8 nt0 e8 ht0
  have hpf8 := e8 _ _ (e7 _ _ hpf)
  refine x_append hpf8 (by rw [List.length_map, hfl, sizeLine_eq]; omega) ?_
  have eC : Ex H (upd H8 pf (.lst (fs.map V.ref ++ [.ref t0]))) := Evl.Ex.mut (Ex.trs eA (Ex.trs e5 (Ex.trs e6 (Ex.trs e7 e8)))) (fresh_back (Ex.trs eA e5) npf)
  generalize upd H8 pf (.lst (fs.map V.ref ++ [.ref t0])) = H9 at *
  have hB9 := hB.ex eC
  walk_at "y"
  refine xd_get (x_var rfl (x_c ⟨o, _, rfl, own_n (hO.ex eC), ?_⟩))
  walk_at "y"
  refine c_told4N o12 rc hB9 ok (fun r hr z => by have := ok.lt r hr; omega) fun H10 e10 => ?_
  walk_at "y"
  refine x_it (by decide) ?_
  walk_at "y"
  refine c_told4N o12 rc (hB9.ex e10) ok (fun r hr z => by omega) fun H11 e11 => ?_
  walk_at "y"
  rw [show decide (markN 4 = [114, 105, 110, 103]) = true from rfl]
  exact q _ (Ex.trs eC (Ex.trs e10 e11))
end
end RW

/-! K12D: _law_right. -/
namespace RW
open PySem PySem.Spec PyProof.Rows L2
open Evl (Ex ex_l ex_t ex_rd fresh_back)
local macro_rules | `(tactic| walk_at "x") => `(tactic| first
  | ((with_reducible apply x_var); exact rfl)
  | with_reducible refine x_c ?_
  | with_reducible refine x_op ?_
  | with_reducible refine x_un ?_
  | with_reducible refine x_neg ?_
  | with_reducible refine x_addI ?_
  | with_reducible refine x_subI ?_
  | with_reducible refine x_ltI ?_
  | with_reducible refine x_ltS ?_
  | with_reducible refine x_leI ?_
  | with_reducible refine x_leS ?_
  | with_reducible refine x_gtI ?_
  | with_reducible refine x_gtS ?_
  | with_reducible refine x_geI ?_
  | with_reducible refine x_eqI ?_
  | with_reducible refine x_eqS ?_
  | with_reducible refine x_eqB ?_
  | with_reducible refine x_neI ?_
  | with_reducible refine x_neS ?_
  | with_reducible refine x_isN ?_
  | with_reducible refine x_isB ?_
  | with_reducible refine x_isNotN ?_
  | with_reducible refine x_isNotB ?_
  | with_reducible refine x_inS ?_
  | with_reducible refine x_sl ?_
  | with_reducible refine x_part ?_
  | with_reducible refine x_nopart ?_
  | with_reducible refine x_rev ?_
  | with_reducible refine x_nil ?_
  | with_reducible refine x_cons ?_
  | with_reducible refine x_lst0 ?_
  | with_reducible refine x_tup0 ?_
  | with_reducible refine x_call0 ?_
  | with_reducible refine x_callS ?_
  | with_reducible refine x_cb ?_
  | with_reducible refine x_m1 ?_
  | with_reducible refine x_m1s ?_
  | with_reducible refine x_bm ?_
  | with_reducible refine x_bm0 ?_
  | with_reducible refine x_tyS ?_
  | with_reducible refine x_max2 ?_
  | with_reducible refine x_min2 ?_
  | with_reducible refine x_seq ?_
  | with_reducible refine x_asg ?_
  | with_reducible refine x_asgG ?_
  | with_reducible refine x_ret ?_
  | with_reducible refine x_retN ?_
  | with_reducible refine x_if ?_
  | with_reducible refine x_next ?_
  | with_reducible refine x_drop ?_
  | with_reducible refine x_break ?_
  | with_reducible refine x_cont ?_
  | with_reducible refine x_par ?_
  | with_reducible refine x_par2 ?_
  | ((with_reducible apply x_aug); exact rfl)
  | with_reducible refine x_ip ?_
  | with_reducible refine x_test ?_
  | with_reducible refine x_tB ?_
  | with_reducible refine x_bl ?_
  | with_reducible refine x_and ?_
  | with_reducible refine x_or ?_
  | with_reducible refine x_not ?_
  | with_reducible refine x_andV ?_
  | with_reducible refine x_orV ?_
  | with_reducible refine x_notV ?_
  | with_reducible refine x_ifV ?_
  | with_reducible refine x_chain ?_
  | with_reducible refine x_intA ?_
  | with_reducible refine x_strA ?_
  | with_reducible refine x_yes ?_
  | with_reducible refine iteT ?_
  | with_reducible refine iteF ?_
  | with_reducible refine x_forRng1 ?_
  | with_reducible refine x_forRng2 ?_
  | with_reducible refine x_forLst ?_
  | with_reducible refine x_forU ?_
  | with_reducible refine x_lcRng1 ?_
  | with_reducible refine x_lcRng2 ?_
  | with_reducible refine x_lcLst ?_
  | with_reducible refine x_lcU ?_
  | with_reducible refine x_uS ?_
  | with_reducible refine x_gcons ?_
  | with_reducible refine x_gnil ?_
  -- with side conditions
  | ((with_reducible refine x_addS ?hs ?_); (case hs => walk_at "sz"))
  | ((with_reducible refine x_divI ?hs ?ht ?_); (case hs => walk_at "sz"); (case ht => walk_at "sz"))
  | ((with_reducible refine x_modI ?hs ?_); (case hs => walk_at "sz"))
  | ((with_reducible refine x_mulI ?hs ?_); (case hs => walk_at "sz"))
  | ((with_reducible refine x_lenS ?hs ?_); (case hs => walk_at "sz"))
  | ((with_reducible refine x_slSlo ?hs ?_); (case hs => walk_at "sz"))
  | ((with_reducible refine x_slShi ?hs ?_); (case hs => walk_at "sz"))
  | ((with_reducible refine x_slSlohi ?hs ?_); (case hs => walk_at "sz"))
  | ((with_reducible refine x_slShiNeg ?hs ?_); (case hs => walk_at "sz"))
  | ((with_reducible refine x_slSloI ?ht ?hs ?_); (case ht => walk_at "sz"); (case hs => walk_at "sz"))
  | ((with_reducible refine x_slShiI ?ht ?hs ?_); (case ht => walk_at "sz"); (case hs => walk_at "sz"))
  | ((with_reducible refine x_rng1 ?hs ?ht ?_); (case hs => walk_at "sz"); (case ht => walk_at "sz"))
  | ((with_reducible refine x_rng2 ?hs ?_); (case hs => walk_at "sz"))
  | ((with_reducible refine x_newL ?hs ?_); (case hs => walk_at "sz"); intro px Hx npx ex hpx)
  | ((with_reducible refine x_newT ?hs ?_); (case hs => walk_at "sz"); intro px Hx npx ex hpx)
  | ((with_reducible apply x_lenL); (walk_at "hp"))
  | ((with_reducible apply x_refL); (walk_at "hp"))
  | ((with_reducible apply x_uL); (walk_at "hp"))
  | ((with_reducible apply x_tyL); (walk_at "hp"))
  )
local macro_rules | `(tactic| walk_at "xs") => `(tactic| repeat (walk_at "x"))
/- sizes, bounds -/
local macro_rules | `(tactic| walk_at "sz") => `(tactic| first
  | with_reducible assumption
  | (rw [sizeLine_eq]; first | omega | (simp only [List.length_cons, List.length_nil, List.length_append, List.length_map, List.length_reverse, List.length_range, List.length_drop, List.length_take, List.length_dropLast]; omega))
  | omega
  | (unfold CMul; omega)
  | (simp only [List.length_cons, List.length_nil, List.length_append, List.length_map, List.length_reverse, List.length_range, List.length_drop, List.length_take, List.length_dropLast]; omega))
/- what stands in the heap -/
local macro_rules | `(tactic| walk_at "hp") => `(tactic| first
  | assumption
  | ((with_reducible apply SqL.of); walk_at "hp")
  | ((with_reducible apply SqT.of); walk_at "hp")
  | ((with_reducible apply Ex.at_); assumption; walk_at "hp")
  | ((with_reducible apply ex_l); assumption; walk_at "hp")
  | ((with_reducible apply ex_t); assumption; walk_at "hp"))
local macro_rules | `(tactic| walk_at "ex") => `(tactic| first
  | assumption
  | exact Ex.rfl'
  | (refine Ex.trs ?_ (by assumption); walk_at "ex"))
/- an item at a place within: what is left speaks of the item -/
local macro_rules | `(tactic| walk_at "ix") => `(tactic| ((with_reducible apply x_ixLm); (walk_at "hp"); (walk_at "sz"); (walk_at "sz")))
local macro_rules | `(tactic| walk_at "is") => `(tactic| ((with_reducible apply x_ixSm); (walk_at "sz"); (walk_at "sz"); (walk_at "sz")))

local macro_rules | `(tactic| walk_at "c1") => `(tactic| ((with_reducible refine c_law_mixed ?_); intro mx Hx mx0 mx1 ex))
local macro_rules | `(tactic| walk_at "y") => `(tactic| repeat (first | walk_at "x" | walk_at "c1"))
/-- what a side stands on -/
def ftS (S : Side) : List Addr := S.o :: S.wl :: feet S.b S.dn S.dw S.rs
/-! ### plain -/
theorem dueF_len (own : Own) (nx way : Nat) (w : List Nat) : (dueF own nx way w).2.1.length ≤ own.length + 1 ∧ (dueF own nx way w).2.2 ≤ nx + 1 := by
  unfold dueF
  split
  · split
    · exact ⟨Nat.le_succ _, Nat.le_succ _⟩
    · split
      · exact ⟨by rw [List.length_append]; exact Nat.le_refl _, Nat.le_succ _⟩
      · exact ⟨by rw [List.length_append]; exact Nat.le_refl _, Nat.le_refl _⟩
  · split
    · split
      · exact ⟨Nat.le_succ_of_le List.length_erase_le, Nat.le_succ _⟩
      · exact ⟨Nat.le_succ _, Nat.le_succ _⟩
    · exact ⟨Nat.le_succ _, Nat.le_succ _⟩
  · exact ⟨Nat.le_succ _, Nat.le_succ _⟩
  · exact ⟨Nat.le_succ _, Nat.le_succ _⟩
theorem dueF_ws {own : Own} {nx way : Nat} {w : List Nat} {l : List (List Nat)} (h : (dueF own nx way w).1 = .ws l) : l.length ≤ own.length ∧ ∀ v ∈ l, ∃ e ∈ own, e.1 = v := by
  unfold dueF at h
  split at h
  · split at h
    · cases h
    · split at h <;> cases h
  · split at h
    · split at h <;> cases h
    · cases h
  · split at h <;> cases h
  · split at h
    · cases h
      refine ⟨by rw [List.length_map]; exact List.length_filter_le _ _, fun v hv => ?_⟩
      obtain ⟨e, he, rfl⟩ := List.mem_map.mp hv
      exact ⟨e, (List.mem_filter.mp he).1, rfl⟩
    · cases h
      exact ⟨Nat.zero_le _, fun v hv => by simp at hv⟩
section
variable {g : G} {vs : List V} {H : Hp} {Q : VK} {E : XK} {K : Frag}
theorem SideAt.notup {S : Side} (h : SideAt g H S) {x : Addr} (hx : x ∈ ftS S) {xs : List V} : H x ≠ some (.tup xs) := fun z => by
  unfold ftS feet at hx
  simp only [List.mem_cons, List.mem_map] at hx
  rcases hx with rfl | rfl | rfl | rfl | rfl | ⟨r, hr, rfl⟩
  · rw [h.on.od] at z
    cases z
  · rw [h.on.ol] at z
    cases z
  · obtain ⟨dx, ob⟩ := h.bk.ob
    rw [ob] at z
    cases z
  · rw [h.bk.hn] at z
    cases z
  · rw [h.bk.hw] at z
    cases z
  · rw [h.bk.hl r hr] at z
    cases z
theorem SideAt.has {S : Side} (h : SideAt g H S) {x : Addr} (hx : x ∈ ftS S) : H x ≠ none := fun z => by
  unfold ftS at hx
  simp only [List.mem_cons] at hx
  rcases hx with rfl | rfl | hx
  · rw [h.on.od] at z
    cases z
  · rw [h.on.ol] at z
    cases z
  · obtain ⟨o, ho⟩ := h.bk.has x hx
    rw [ho] at z
    cases z
/-- the account stands where neither it nor its list is written -/
theorem OwnAt.fr {H' : Hp} {o wl : Addr} {ts : List Addr} {own : Own} {nx : Nat} {fp : List Addr} (h : OwnAt H o wl ts own nx) (f : Fr fp H H') (h1 : o ∉ fp) (h2 : wl ∉ fp) (h3 : ∀ x ∈ fp, ∀ xs, H x ≠ some (.tup xs)) : OwnAt H' o wl ts own nx :=
  ⟨f _ _ h.od h1, f _ _ h.ol h2, h.tl, fun i t e k1 k2 => f _ _ (h.tt i t e k1 k2) fun z => h3 t z _ (h.tt i t e k1 k2)⟩
/-- a side stands where none of its feet is written -/
theorem SideAt.fr {H' : Hp} {S : Side} {fp : List Addr} (h : SideAt g H S) (f : Fr fp H H') (d : ∀ x ∈ ftS S, x ∉ fp) (h3 : ∀ x ∈ fp, ∀ xs, H x ≠ some (.tup xs)) : SideAt g H' S :=
  ⟨h.bk.fr f fun x hx => d x (by unfold ftS; exact List.mem_cons_of_mem _ (List.mem_cons_of_mem _ hx)), h.ok, h.on.fr f (d _ (by simp [ftS])) (d _ (by simp [ftS])) h3, h.lk, h.dj⟩
theorem x_ifJ {t : TT} {tu tw : TS} {nx bk ct : L2.St → Hp → Prop} {rt : VK} {σ : L2.St} (J : L2.St → Hp → Prop) (hJ : ∀ σ' H', J σ' H' → nx σ' H') (h : ∀ N : L2.St → Hp → Prop, (∀ σ' H', J σ' H' → N σ' H') → tIfS t tu tw ⟨N, rt, bk, ct⟩ σ H) : tIfS t tu tw ⟨nx, rt, bk, ct⟩ σ H := h nx hJ
/-! ### _law_right -/
def sp_k12_right (g : G) : Sp := fun vs H Q _ => E12 g ∧ RC g ∧ ∃ (S : Side) (c : Int), vs = [.ref S.b, .ref S.o, .int c] ∧ SideAt g H S ∧ S.own.length ≤ 900 ∧
  ∀ (S' : Side) (H' : Hp), S'.b = S.b → S'.o = S.o → SideAt g H' S' → Fr (ftS S) H H' → Grow H (ftS S) (ftS S') → S'.own.length ≤ S.own.length + 1 → S'.nx ≤ S.nx + 1 → Q (.bl true) H'
/-- _law_right: slots _law_book, _law_own, _law_cell, _law_word, _law_old, _law_way, _law_found, _law_due_here -/
def t_k12_right (g : G) : TS :=
  tSeq (tAsg (tCall (sp_law_drawn g) [] E0 (tCons (tVar 2) (tCons (tOp (rIx g.K) (tLst (tCons (tC (.str (ST [97, 98]))) (tCons (tC (.str (ST [97, 98]))) (tCons (tC (.str (ST [97, 98, 99]))) tNil)))) (tOp uMod (tOp uDiv (tCall (sp_law_mixed g) [] E0 (tCons (tVar 2) (tCons (tC (.int 1)) tNil))) (tC (.int 7))) (tC (.int 3)))) (tCons (tOp (uAdd g.K) (tC (.int 1)) (tOp uMod (tOp uDiv (tCall (sp_law_mixed g) [] E0 (tCons (tVar 2) (tCons (tC (.int 2)) tNil))) (tC (.int 7))) (tC (.int 5)))) tNil)))) (gName 3))
    (tSeq (tIfS (tAnd (tTest (tOp (uNe g.K) (tDGet (tVar 1) (tC (.str (ST [119, 111, 114, 100, 115])))) (tLst tNil))) (tTest (tOp (uEq g.K) (tOp uMod (tOp uDiv (tCall (sp_law_mixed g) [] E0 (tCons (tVar 2) (tCons (tC (.int 3)) tNil))) (tC (.int 7))) (tC (.int 3))) (tC (.int 0))))) (tSeq (tAsg (tOp (rIx g.K) (tOp (rIx g.K) (tDGet (tVar 1) (tC (.str (ST [119, 111, 114, 100, 115])))) (tOp uMod (tOp uDiv (tCall (sp_law_mixed g) [] E0 (tCons (tVar 2) (tCons (tC (.int 4)) tNil))) (tC (.int 7))) (tCB (rLen g.K) (tCons (tDGet (tVar 1) (tC (.str (ST [119, 111, 114, 100, 115])))) tNil)))) (tC (.int 0))) (gName 4))
    (tAsg (tOp (rIx g.K) (tCall (sp_law_turnings g) [] E0 (tCons (tVar 4) tNil)) (tOp uMod (tOp uDiv (tCall (sp_law_mixed g) [] E0 (tCons (tVar 2) (tCons (tC (.int 5)) tNil))) (tC (.int 7))) (tCB (rLen g.K) (tCons (tVar 4) tNil)))) (gName 3))) tNext)
    (tSeq (tAsg (tOp (rIx g.K) (tLst (tCons (tC (.int 0)) (tCons (tC (.int 0)) (tCons (tC (.int 0)) (tCons (tC (.int 1)) (tCons (tC (.int 1)) (tCons (tC (.int 2)) (tCons (tC (.int 3)) tNil)))))))) (tOp uMod (tOp uDiv (tCall (sp_law_mixed g) [] E0 (tCons (tVar 2) (tCons (tC (.int 6)) tNil))) (tC (.int 7))) (tC (.int 7)))) (gName 5))
    (tSeq (tAsg (tCall (sp_k12_told g) [] E0 (tCons (tVar 0) (tCons (tVar 5) (tCons (tVar 3) tNil)))) (gName 6))
    (tSeq (tAsg (tCall (sp_law_due g) [] E0 (tCons (tVar 1) (tCons (tVar 5) (tCons (tVar 3) tNil)))) (gName 7))
    (tSeq (tIfS (tOr (tTest (tOp (uNe g.K) (tVar 6) (tVar 7))) (tB (tCB (rIsU g.K) (tCons (tVar 6) (tCons (tC (.ty "bool")) tNil))))) (tRet (tC (.bl false))) tNext)
    (tSeq (tIfS (tB (tCB (rIsU g.K) (tCons (tVar 6) (tCons (tC (.ty "list")) tNil)))) (tDrop (tBM g.K "list" rAppend (tVar 6) (tCons (tC (.str (ST [97]))) tNil))) tNext)
    (tRet (tOp (uEq g.K) (tCall (sp_k12_told g) [] E0 (tCons (tVar 0) (tCons (tOp uMod (tOp uDiv (tCall (sp_law_mixed g) [] E0 (tCons (tVar 2) (tCons (tC (.int 7)) tNil))) (tC (.int 7))) (tC (.int 4))) (tCons (tCall (sp_law_no_word g) [] E0 (tCons (tCall (sp_law_mixed g) [] E0 (tCons (tVar 2) (tCons (tC (.int 8)) tNil))) tNil)) tNil)))) (tC (.str (ST [119, 111, 114, 100])))))))))))
theorem p_k12_right (h : sp_k12_right g vs H Q E) : t_k12_right g (D0 Q) (st0 8 vs) H := by
  obtain ⟨o12, rc, ⟨b, dn, dw, o, wl, rs, nx, ts, own⟩, c, rfl, hS, hlen, q⟩ := h
  simp only at hlen q
  show t_k12_right g (D0 Q) [some (.ref b), some (.ref o), some (.int c), none, none, none, none, none] H
  unfold t_k12_right
  walk_at "y"
  rename_i pl H1 npl e1 hpl m1 H2 _ _ e2
  refine x_ixLm (SqL.of (e2 _ _ hpl)) (Int.emod_nonneg _ (by decide)) (Int.emod_lt_of_pos _ (by decide)) fun sv hsv _ => ?_
  obtain ⟨Sg, rfl, hSg, hSl⟩ : ∃ Sg : List Nat, sv = .str (ST Sg) ∧ Letters Sg ∧ 1 ≤ Sg.length ∧ Sg.length ≤ 3 := by
    have l2 : Letters [97, 98] := fun c hc => by
      simp only [List.mem_cons, List.not_mem_nil, or_false] at hc
      unfold Letter
      omega
    have l3 : Letters [97, 98, 99] := fun c hc => by
      simp only [List.mem_cons, List.not_mem_nil, or_false] at hc
      unfold Letter
      omega
    simp only [List.mem_cons, List.not_mem_nil, or_false] at hsv
    rcases hsv with rfl | rfl | rfl
    · exact ⟨_, rfl, l2, by decide, by decide⟩
    · exact ⟨_, rfl, l2, by decide, by decide⟩
    · exact ⟨_, rfl, l3, by decide, by decide⟩
  walk_at "y"
  rename_i m2 H3 _ _ e3
  refine c_law_drawn hSg (by omega) (by omega) (by omega) (by omega) fun w0 H4 hw0 hw0l e4 => ?_
  have eA : Ex H H4 := Ex.trs e1 (Ex.trs e2 (Ex.trs e3 e4))
  have hW0 : Word w0 := ⟨hw0, by omega, by omega⟩
  clear e1 e2 e3 e4 hpl
  refine x_seq (x_ifJ (fun σ' H' => ∃ w a4, σ' = [some (.ref b), some (.ref o), some (.int c), some (.str (ST w)), a4, none, none, none] ∧ Word w ∧ Ex H H') ?_ fun N hN => ?_)
  case refine_2 =>
    have hS4 := hS.ex eA
    have hO4 : OwnAt H4 o wl ts own nx := hS4.on
    have hok : ∀ e ∈ own, Okc e.1 := fun e he => (hS.words e he).1.okc
    walk_at "y"
    refine xd_get (x_var rfl (x_c ⟨o, _, rfl, own_w hO4, ?_⟩))
    walk_at "y"
    rename_i pe H5 npe e5 hpe
    have hO5 := hO4.ex e5
    refine x_neD (d := .list (own.map dtp)) (e := .list (([] : Own).map dtp)) (.lst (SqL.of hO5.ol) hO5.dp) (.lst (SqL.of hpe) .nil) (dtps_shaped hok) (dtps_shaped fun f hf => by simp at hf) ?_
    rw [show PyData.eqv (.list (own.map dtp)) (.list (([] : Own).map dtp)) = decide (own = []) from dtps_eqv own []]
    have e05 := Ex.trs eA e5
    walk_at "y"
    refine x_ifnd (fun hne => ?_) fun hemp => ?_
    · walk_at "y"
      rename_i m3 H6 _ _ e6
      refine x_ifd (fun _ => ?_) fun _ => ?_
      · have hO6 := hO5.ex e6
        have hlp : 1 ≤ own.length := List.length_pos_iff.mpr hne
        walk_at "y"
        refine xd_get (x_var rfl (x_c ⟨o, _, rfl, own_w hO6, ?_⟩))
        walk_at "y"
        rename_i m4 H7 _ _ e7
        have hO7 := hO6.ex e7
        refine xd_get (x_var rfl (x_c ⟨o, _, rfl, own_w hO7, ?_⟩))
        have hol := hO7.ol
        have htl : (ts.map V.ref).length = own.length := by rw [List.length_map]; exact hO7.tl
        walk_at "y"
        refine x_ixLm (SqL.of hol) (Int.emod_nonneg _ (by omega)) (Int.emod_lt_of_pos _ (by omega)) fun v hv hvi => ?_
        obtain ⟨t, i, ht, rfl⟩ : ∃ t i, ts[i]? = some t ∧ v = .ref t := by
          obtain ⟨t, h1, rfl⟩ := List.mem_map.mp hv
          obtain ⟨i, hi⟩ := List.getElem?_of_mem h1
          exact ⟨t, i, hi, rfl⟩
        obtain ⟨e, he⟩ : ∃ e, own[i]? = some e := ⟨_, List.getElem?_eq_getElem (by
          have := (List.getElem?_eq_some_iff.mp ht).1
          have := hO7.tl
          omega)⟩
        have hew : Word e.1 := hS.words e (List.mem_of_getElem? he)
        have hew2 := hew.2
        walk_at "y"
        refine x_ixT (SqT.of (hO7.tt i t e ht he)) (atI_nat (j := 0) rfl) ?_
        walk_at "y"
        refine c_law_turnings (by omega) fun pt H8 npt e8 hpt => ?_
        walk_at "y"
        rename_i m5 H9 _ _ e9
        have htt := turnsL_len e.1
        refine x_ixLm (SqL.of (e9 _ _ hpt)) (Int.emod_nonneg _ (by omega)) (by
          rw [tx_len, htt]
          exact Int.emod_lt_of_pos _ (by omega)) fun v hv _ => ?_
        obtain ⟨w, hw, rfl⟩ := List.mem_map.mp hv
        have hwl := turnsL_lens w hw
        exact hN _ _ ⟨w, _, rfl, ⟨hew.1.turnsL w hw, by omega, by omega⟩, Ex.trs e05 (Ex.trs e6 (Ex.trs e7 (Ex.trs e8 e9)))⟩
      · walk_at "y"
        exact hN _ _ ⟨w0, _, rfl, hW0, Ex.trs e05 e6⟩
    · walk_at "y"
      exact hN _ _ ⟨w0, _, rfl, hW0, e05⟩
  rintro σ' H5 ⟨w, a4, rfl, hw, e5⟩
  clear eA hW0 hw0
  walk_at "y"
  rename_i pw H6 npw e6 hpw m6 H7 _ _ e7
  refine x_ixLm (SqL.of (e7 _ _ hpw)) (Int.emod_nonneg _ (by decide)) (Int.emod_lt_of_pos _ (by decide)) fun wv hwv _ => ?_
  obtain ⟨way, hway, rfl⟩ : ∃ way : Nat, way < 4 ∧ wv = .int (way : Int) := by
    simp only [List.mem_cons, List.not_mem_nil, or_false] at hwv
    rcases hwv with rfl | rfl | rfl | rfl | rfl | rfl | rfl
    · exact ⟨0, by decide, rfl⟩
    · exact ⟨0, by decide, rfl⟩
    · exact ⟨0, by decide, rfl⟩
    · exact ⟨1, by decide, rfl⟩
    · exact ⟨1, by decide, rfl⟩
    · exact ⟨2, by decide, rfl⟩
    · exact ⟨3, by decide, rfl⟩
  have eA : Ex H H7 := Ex.trs e5 (Ex.trs e6 e7)
  clear e5 e6 e7 hpw hwv
  have hS7 := hS.ex eA
  obtain ⟨hB, ok, hO, lk, dj⟩ := id hS7
  simp only at hB ok hO lk dj
  obtain ⟨len1, len2⟩ := dueF_len own nx way w
  walk_at "y"
  refine ⟨o12, rc, .inl ⟨b, dn, dw, rs, nx, own, way, w, rfl, hway, hw, hB, ok, lk, by omega, fun v rs' H8 hv hvn hB8 ok8 lk8 hF8 hG8 => ?_⟩⟩
  have hO8 : OwnAt H8 o wl ts own nx := hO.fr hF8 (fun z => (dj o z).1 rfl) (fun z => (dj wl z).2 rfl) fun x hx xs => hS7.notup (by unfold ftS; exact List.mem_cons_of_mem _ (List.mem_cons_of_mem _ hx))
  walk_at "y"
  refine ⟨o, wl, ts, own, nx, way, w, rfl, hway, hO8, hw, hS.words, by omega, fun hI => ?_, fun v2 ts' H9 hv2 hO9 hF9 => ?_⟩
  · obtain ⟨r, hr, hf, hin⟩ := (isIn_ring ok lk).mp hI
    exact ⟨r.num, ringOf_some ok lk hr hf, lk.of hr hin⟩
  have dj8 : ∀ x ∈ feet b dn dw rs', x ≠ o ∧ x ≠ wl := fun x hx => by
    rcases hG8 x hx with h | h
    · exact dj x h
    · refine ⟨fun z => ?_, fun z => ?_⟩
      · rw [z, hO.od] at h
        cases h
      · rw [z, hO.ol] at h
        cases h
  have hB9 := hB8.fr hF9 fun x hx z => by
    simp only [List.mem_cons, List.not_mem_nil, or_false] at z
    rcases z with z | z
    · exact (dj8 x hx).1 z
    · exact (dj8 x hx).2 z
  have hS9 : SideAt g H9 ⟨b, dn, dw, o, wl, rs', (dueF own nx way w).2.2, ts', (dueF own nx way w).2.1⟩ := ⟨hB9, ok8, hO9, lk8, dj8⟩
  have hFall : Fr (ftS ⟨b, dn, dw, o, wl, rs, nx, ts, own⟩) H H9 := ((Fr.of eA).trs (hF8.mono fun x hx => by unfold ftS; exact List.mem_cons_of_mem _ (List.mem_cons_of_mem _ hx))).trs (hF9.mono fun x hx => by
    unfold ftS
    simp only [List.mem_cons, List.not_mem_nil, or_false] at hx ⊢
    rcases hx with h | h
    · exact .inl h
    · exact .inr (.inl h))
  have hGall : Grow H (ftS ⟨b, dn, dw, o, wl, rs, nx, ts, own⟩) (ftS ⟨b, dn, dw, o, wl, rs', (dueF own nx way w).2.2, ts', (dueF own nx way w).2.1⟩) := fun x hx => by
    unfold ftS at hx ⊢
    simp only [List.mem_cons] at hx ⊢
    rcases hx with h | h | h
    · exact .inl (.inl h)
    · exact .inl (.inr (.inl h))
    · rcases hG8 x h with k | k
      · exact .inl (.inr (.inr k))
      · exact .inr (by
          cases h9 : H x with
          | none => rfl
          | some u => rw [eA _ _ h9] at k; cases k)
  have tail : ∀ (H10 : Hp) (v : V) , SideAt g H10 ⟨b, dn, dw, o, wl, rs', (dueF own nx way w).2.2, ts', (dueF own nx way w).2.1⟩ → Fr (ftS ⟨b, dn, dw, o, wl, rs, nx, ts, own⟩) H H10 →
      ∀ (u7 : V), tRet (tOp (uEq g.K) (tCall (sp_k12_told g) [] E0 (tCons (tVar 0) (tCons (tOp uMod (tOp uDiv (tCall (sp_law_mixed g) [] E0 (tCons (tVar 2) (tCons (tC (.int 7)) tNil))) (tC (.int 7))) (tC (.int 4))) (tCons (tCall (sp_law_no_word g) [] E0 (tCons (tCall (sp_law_mixed g) [] E0 (tCons (tVar 2) (tCons (tC (.int 8)) tNil))) tNil)) tNil)))) (tC (.str (ST [119, 111, 114, 100])))) (D0 Q) [some (.ref b), some (.ref o), some (.int c), some (.str (ST w)), a4, some (.int (way : Int)), some v, some u7] H10 := by
    intro H10 v hS10 hF10 u7
    walk_at "y"
    rename_i m7 K1 _ _ k1 m8 K2 _ _ k2
    refine c_law_no_word fun bad K3 hbad k3 => ?_
    walk_at "y"
    have c0 := Int.emod_nonneg (m7 / 7) (show (4 : Int) ≠ 0 by decide)
    have c1 := Int.emod_lt_of_pos (m7 / 7) (show (0 : Int) < 4 by decide)
    obtain ⟨way2, hw2⟩ : ∃ N : Nat, m7 / 7 % 4 = (N : Int) := ⟨(m7 / 7 % 4).toNat, by omega⟩
    rw [hw2]
    have k13 := Ex.trs k1 (Ex.trs k2 k3)
    have hS13 := hS10.ex k13
    refine ⟨o12, rc, .inr (.inr ⟨b, dn, dw, rs', _, way2, bad, rfl, by omega, hS13.bk, hbad, fun K4 k4 => ?_⟩)⟩
    walk_at "y"
    rw [show decide (markN 0 = [119, 111, 114, 100]) = true from rfl]
    exact q _ K4 rfl rfl (hS13.ex k4) (hF10.trs (Fr.of (Ex.trs k13 k4))) hGall len1 len2
  walk_at "y"
  cases hres : (dueF own nx way w).1 with
  | num n =>
    rw [hres] at hv hv2
    obtain rfl : v = .int (n : Int) := hv
    obtain rfl : v2 = .int (n : Int) := hv2
    refine x_neSelf rfl ?_
    walk_at "y"
    refine x_isT (.base (.int _)) (by decide +kernel : kitB "int" "bool" = some false) ?_
    walk_at "y"
    refine x_isT (.base (.int _)) (by decide +kernel : kitB "int" "list" = some false) ?_
    exact ⟨false, rfl, x_if0 rfl (x_next (tail H9 _ hS9 hFall _))⟩
  | no =>
    rw [hres] at hv hv2
    obtain rfl : v = .non := hv
    obtain rfl : v2 = .non := hv2
    refine x_neSelf rfl ?_
    walk_at "y"
    refine x_isT (.base .non) (by decide +kernel : kitB "NoneType" "bool" = some false) ?_
    walk_at "y"
    refine x_isT (.base .non) (by decide +kernel : kitB "NoneType" "list" = some false) ?_
    exact ⟨false, rfl, x_if0 rfl (x_next (tail H9 _ hS9 hFall _))⟩
  | mark i =>
    rw [hres] at hv hv2
    obtain rfl : v = .str (ST (markN i)) := hv
    obtain rfl : v2 = .str (ST (markN i)) := hv2
    refine x_neSelf rfl ?_
    walk_at "y"
    refine x_isT (.base (.str _)) (by decide +kernel : kitB "str" "bool" = some false) ?_
    walk_at "y"
    refine x_isT (.base (.str _)) (by decide +kernel : kitB "str" "list" = some false) ?_
    exact ⟨false, rfl, x_if0 rfl (x_next (tail H9 _ hS9 hFall _))⟩
  | ws l =>
    obtain ⟨hll, hlw⟩ := dueF_ws hres
    rw [hres] at hv hv2
    obtain ⟨p, rfl, np, hp⟩ := hv
    obtain ⟨p2, rfl, np2, hp2⟩ := hv2
    have hok : ∀ x ∈ l, Okc x := fun x hx => by
      obtain ⟨e, he, rfl⟩ := hlw x hx
      exact (hS.words e he).1.okc
    have pno : p ≠ o ∧ p ≠ wl := by
      refine ⟨fun z => ?_, fun z => ?_⟩
      · rw [z, hO.od] at np
        cases np
      · rw [z, hO.ol] at np
        cases np
    have hp9 := hF9 _ _ hp (by simp [pno.1, pno.2])
    refine x_neTx (SqL.of hp9) (SqL.of hp2) hok hok ?_
    walk_at "y"
    refine x_if0 (by simp) ?_
    walk_at "y"
    refine x_isT (.base (.lst hp9)) (by decide +kernel : kitB "list" "bool" = some false) ?_
    walk_at "y"
    refine x_isT (.base (.lst hp9)) (by decide +kernel : kitB "list" "list" = some true) ?_
    walk_at "y"
    refine x_append hp9 (by rw [tx_len, sizeLine_eq]; omega) ?_
    have hF10 : Fr [p] H9 (upd H9 p (.lst (tx l ++ [.str (ST [97])]))) := Fr.put (by simp)
    have np0 : H p = none := by
      cases h9 : H p with
      | none => rfl
      | some u => rw [eA _ _ h9] at np; cases np
    refine tail _ _ (hS9.fr hF10 (fun x hx z => ?_) fun x hx xs z => ?_) (fun x u hu hn => ?_) _
    · obtain rfl := List.mem_singleton.mp z
      unfold ftS at hx
      simp only [List.mem_cons] at hx
      rcases hx with h | h | h
      · exact pno.1 h
      · exact pno.2 h
      · exact hvn x rfl h
    · obtain rfl := List.mem_singleton.mp hx
      rw [hp9] at z
      cases z
    · rw [upd_ne (ne_of_none hu np0)]
      exact hFall x u hu hn
end
end RW

/-! K12: law. -/
namespace RW
open PySem PySem.Spec PyProof.Rows L2
open Evl (Ex ex_l ex_t ex_rd fresh_back)
local macro_rules | `(tactic| walk_at "x") => `(tactic| first
  | ((with_reducible apply x_var); exact rfl)
  | with_reducible refine x_c ?_
  | with_reducible refine x_op ?_
  | with_reducible refine x_un ?_
  | with_reducible refine x_neg ?_
  | with_reducible refine x_addI ?_
  | with_reducible refine x_subI ?_
  | with_reducible refine x_ltI ?_
  | with_reducible refine x_ltS ?_
  | with_reducible refine x_leI ?_
  | with_reducible refine x_leS ?_
  | with_reducible refine x_gtI ?_
  | with_reducible refine x_gtS ?_
  | with_reducible refine x_geI ?_
  | with_reducible refine x_eqI ?_
  | with_reducible refine x_eqS ?_
  | with_reducible refine x_eqB ?_
  | with_reducible refine x_neI ?_
  | with_reducible refine x_neS ?_
  | with_reducible refine x_isN ?_
  | with_reducible refine x_isB ?_
  | with_reducible refine x_isNotN ?_
  | with_reducible refine x_isNotB ?_
  | with_reducible refine x_inS ?_
  | with_reducible refine x_sl ?_
  | with_reducible refine x_part ?_
  | with_reducible refine x_nopart ?_
  | with_reducible refine x_rev ?_
  | with_reducible refine x_nil ?_
  | with_reducible refine x_cons ?_
  | with_reducible refine x_lst0 ?_
  | with_reducible refine x_tup0 ?_
  | with_reducible refine x_call0 ?_
  | with_reducible refine x_callS ?_
  | with_reducible refine x_cb ?_
  | with_reducible refine x_m1 ?_
  | with_reducible refine x_m1s ?_
  | with_reducible refine x_bm ?_
  | with_reducible refine x_bm0 ?_
  | with_reducible refine x_tyS ?_
  | with_reducible refine x_max2 ?_
  | with_reducible refine x_min2 ?_
  | with_reducible refine x_seq ?_
  | with_reducible refine x_asg ?_
  | with_reducible refine x_asgG ?_
  | with_reducible refine x_ret ?_
  | with_reducible refine x_retN ?_
  | with_reducible refine x_if ?_
  | with_reducible refine x_next ?_
  | with_reducible refine x_drop ?_
  | with_reducible refine x_break ?_
  | with_reducible refine x_cont ?_
  | with_reducible refine x_par ?_
  | with_reducible refine x_par2 ?_
  | ((with_reducible apply x_aug); exact rfl)
  | with_reducible refine x_ip ?_
  | with_reducible refine x_test ?_
  | with_reducible refine x_tB ?_
  | with_reducible refine x_bl ?_
  | with_reducible refine x_and ?_
  | with_reducible refine x_or ?_
  | with_reducible refine x_not ?_
  | with_reducible refine x_andV ?_
  | with_reducible refine x_orV ?_
  | with_reducible refine x_notV ?_
  | with_reducible refine x_ifV ?_
  | with_reducible refine x_chain ?_
  | with_reducible refine x_intA ?_
  | with_reducible refine x_strA ?_
  | with_reducible refine x_yes ?_
  | with_reducible refine iteT ?_
  | with_reducible refine iteF ?_
  | with_reducible refine x_forRng1 ?_
  | with_reducible refine x_forRng2 ?_
  | with_reducible refine x_forLst ?_
  | with_reducible refine x_forU ?_
  | with_reducible refine x_lcRng1 ?_
  | with_reducible refine x_lcRng2 ?_
  | with_reducible refine x_lcLst ?_
  | with_reducible refine x_lcU ?_
  | with_reducible refine x_uS ?_
  | with_reducible refine x_gcons ?_
  | with_reducible refine x_gnil ?_
  -- with side conditions
  | ((with_reducible refine x_addS ?hs ?_); (case hs => walk_at "sz"))
  | ((with_reducible refine x_divI ?hs ?ht ?_); (case hs => walk_at "sz"); (case ht => walk_at "sz"))
  | ((with_reducible refine x_modI ?hs ?_); (case hs => walk_at "sz"))
  | ((with_reducible refine x_mulI ?hs ?_); (case hs => walk_at "sz"))
  | ((with_reducible refine x_lenS ?hs ?_); (case hs => walk_at "sz"))
  | ((with_reducible refine x_slSlo ?hs ?_); (case hs => walk_at "sz"))
  | ((with_reducible refine x_slShi ?hs ?_); (case hs => walk_at "sz"))
  | ((with_reducible refine x_slSlohi ?hs ?_); (case hs => walk_at "sz"))
  | ((with_reducible refine x_slShiNeg ?hs ?_); (case hs => walk_at "sz"))
  | ((with_reducible refine x_slSloI ?ht ?hs ?_); (case ht => walk_at "sz"); (case hs => walk_at "sz"))
  | ((with_reducible refine x_slShiI ?ht ?hs ?_); (case ht => walk_at "sz"); (case hs => walk_at "sz"))
  | ((with_reducible refine x_rng1 ?hs ?ht ?_); (case hs => walk_at "sz"); (case ht => walk_at "sz"))
  | ((with_reducible refine x_rng2 ?hs ?_); (case hs => walk_at "sz"))
  | ((with_reducible refine x_newL ?hs ?_); (case hs => walk_at "sz"); intro px Hx npx ex hpx)
  | ((with_reducible refine x_newT ?hs ?_); (case hs => walk_at "sz"); intro px Hx npx ex hpx)
  | ((with_reducible apply x_lenL); (walk_at "hp"))
  | ((with_reducible apply x_refL); (walk_at "hp"))
  | ((with_reducible apply x_uL); (walk_at "hp"))
  | ((with_reducible apply x_tyL); (walk_at "hp"))
  )
local macro_rules | `(tactic| walk_at "xs") => `(tactic| repeat (walk_at "x"))
/- sizes, bounds -/
local macro_rules | `(tactic| walk_at "sz") => `(tactic| first
  | with_reducible assumption
  | (rw [sizeLine_eq]; first | omega | (simp only [List.length_cons, List.length_nil, List.length_append, List.length_map, List.length_reverse, List.length_range, List.length_drop, List.length_take, List.length_dropLast]; omega))
  | omega
  | (unfold CMul; omega)
  | (simp only [List.length_cons, List.length_nil, List.length_append, List.length_map, List.length_reverse, List.length_range, List.length_drop, List.length_take, List.length_dropLast]; omega))
/- what stands in the heap -/
local macro_rules | `(tactic| walk_at "hp") => `(tactic| first
  | assumption
  | ((with_reducible apply SqL.of); walk_at "hp")
  | ((with_reducible apply SqT.of); walk_at "hp")
  | ((with_reducible apply Ex.at_); assumption; walk_at "hp")
  | ((with_reducible apply ex_l); assumption; walk_at "hp")
  | ((with_reducible apply ex_t); assumption; walk_at "hp"))
local macro_rules | `(tactic| walk_at "ex") => `(tactic| first
  | assumption
  | exact Ex.rfl'
  | (refine Ex.trs ?_ (by assumption); walk_at "ex"))
/- an item at a place within: what is left speaks of the item -/
local macro_rules | `(tactic| walk_at "ix") => `(tactic| ((with_reducible apply x_ixLm); (walk_at "hp"); (walk_at "sz"); (walk_at "sz")))
local macro_rules | `(tactic| walk_at "is") => `(tactic| ((with_reducible apply x_ixSm); (walk_at "sz"); (walk_at "sz"); (walk_at "sz")))

local macro_rules | `(tactic| walk_at "c1") => `(tactic| ((with_reducible refine c_law_mixed ?_); intro mx Hx mx0 mx1 ex))
local macro_rules | `(tactic| walk_at "y") => `(tactic| repeat (first | walk_at "x" | walk_at "c1"))
/-- two sides, apart, in a heap -/
structure Two (g : G) (H0 H : Hp) (fx : List Addr) (A B : Side) (n : Nat) : Prop where
  a : SideAt g H A
  b : SideAt g H B
  dj : ∀ x ∈ ftS A, x ∉ ftS B
  fa : ∀ x ∈ ftS A, H0 x = none ∧ x ∉ fx
  fb : ∀ x ∈ ftS B, H0 x = none ∧ x ∉ fx
  la : A.own.length ≤ n ∧ A.nx ≤ n
  lb : B.own.length ≤ n ∧ B.nx ≤ n
  ex : Ex H0 H
  fxs : ∀ x ∈ fx, H x ≠ none
theorem Two.swap {g : G} {H0 H : Hp} {fx : List Addr} {A B : Side} {n : Nat} (h : Two g H0 H fx A B n) : Two g H0 H fx B A n := ⟨h.b, h.a, fun x hb ha => h.dj x ha hb, h.fb, h.fa, h.lb, h.la, h.ex, h.fxs⟩
theorem Two.ext {g : G} {H0 H H' : Hp} {fx : List Addr} {A B : Side} {n : Nat} (h : Two g H0 H fx A B n) (e : Ex H H') : Two g H0 H' fx A B n := ⟨h.a.ex e, h.b.ex e, h.dj, h.fa, h.fb, h.la, h.lb, Ex.trs h.ex e, fun x hx z => by
  cases k : H x with
  | none => exact h.fxs x hx k
  | some u => rw [e _ _ k] at z; cases z⟩
theorem Two.step {g : G} {H0 H H' : Hp} {fx : List Addr} {A B A' : Side} {n : Nat} (h : Two g H0 H fx A B n) (hA : SideAt g H' A') (f : Fr (ftS A) H H') (gr : Grow H (ftS A) (ftS A')) (l1 : A'.own.length ≤ A.own.length + 1) (l2 : A'.nx ≤ A.nx + 1) :
    Two g H0 H' fx A' B (n + 1) ∧ ∀ x ∈ fx, ∀ u, H x = some u → H' x = some u := by
  have keep : ∀ x ∈ fx, ∀ u, H x = some u → H' x = some u := fun x hx u hu => f x u hu fun z => (h.fa x z).2 hx
  have h1 := h.la
  have h2 := h.lb
  have back : ∀ x, H x = none → H0 x = none := fun x hx => fresh_back h.ex hx
  refine ⟨⟨hA, h.b.fr f (fun x hb ha => h.dj x ha hb) fun x hx xs => h.a.notup hx, fun x hx hb => ?_, fun x hx => ?_, h.fb, by omega, by omega, fun x u hu => f x u (h.ex x u hu) fun z => ?_, fun x hx z => ?_⟩, keep⟩
  · rcases gr x hx with k | k
    · exact h.dj x k hb
    · exact h.b.has hb k
  · rcases gr x hx with k | k
    · exact h.fa x k
    · exact ⟨back x k, fun z => h.fxs x z k⟩
  · rw [(h.fa x z).1] at hu
    cases hu
  · cases k : H x with
    | none => exact h.fxs x hx k
    | some u => rw [keep x hx u k] at z; cases z
section
variable {g : G} {vs : List V} {H : Hp} {Q : VK} {E : XK} {K : Frag}
/-- a new book -/
theorem x_mkBook {σ : L2.St} (rc : RC g) (q : ∀ b dn dw H', H b = none → H dn = none → H dw = none → Ex H H' → BookAt g H' b dn dw [] 0 → Q (.ref b) H') : tMake g.cRings (sp_Rings___init__ g) [] E tNil σ H Q := by
  refine x_make fun b dx nb ndx nbdx => c_ring_init rc upd_same fun dn dw H' hdn hdw hB hFr => ⟨rfl, ?_⟩
  have nfr : ∀ {x : Addr}, upd (upd H dx (.own b)) b (.ins g.cRings dx []) x = none → H x = none := fun {x} h => by
    by_cases z : x = b
    · rw [z]; exact nb
    · rw [upd_ne z] at h
      by_cases z2 : x = dx
      · rw [z2]; exact ndx
      · rwa [upd_ne z2] at h
  refine q b dn dw H' nb (nfr hdn) (nfr hdw) (fun x o h => hFr x o (by
    rw [upd_ne (ne_of_none h nb), upd_ne (ne_of_none h ndx)]
    exact h) fun z => ?_) hB
  obtain rfl := List.mem_singleton.mp z
  rw [nb] at h
  cases h
/-- a new account -/
theorem x_mkOwn {σ : L2.St} (q : ∀ o wl H', H o = none → H wl = none → Ex H H' → OwnAt H' o wl [] [] 0 → Q (.ref o) H') : tDisp [(tC (.str kW), tLst tNil), (tC (.str kN), tC (.int 0))] σ H Q := by
  intro o no
  show tC (.str kW) σ _ _
  refine x_c ?_
  show tLst tNil σ _ _
  walk_at "y"
  rename_i wl H1 nwl e1 hwl
  show tC (.str kN) σ _ _
  refine x_c ?_
  show tC (.int 0) σ _ _
  refine x_c ?_
  have eo := Evl.Ex.new no (o := HO.dK ([] : List (Key × V)))
  have wo : wl ≠ o := fun z => by rw [z, upd_same] at nwl; cases nwl
  have nw : H wl = none := by rwa [upd_ne wo] at nwl
  have h1 : putK ([] : List (Key × V)) (Sum.inr kW : Key) (.ref wl) = [((Sum.inr kW : Key), .ref wl)] := rfl
  have h2 : putK ([((Sum.inr kW : Key), .ref wl)] : List (Key × V)) (Sum.inr kN : Key) (.int 0) = ownK wl 0 := by
    rw [putK_new _ ((valV_neg fun z => kWN (Sum.inr.inj z)).trans rfl)]
    rfl
  refine ⟨e1 _ _ upd_same, [(.inr kW, .ref wl), (.inr kN, .int 0)], rfl, by show 2 ≤ 15; decide, ?_⟩
  have hm : mergeK [] [((.inr kW, .ref wl) : Key × V), (.inr kN, .int 0)] = ownK wl 0 := by
    show putK (putK ([] : List (Key × V)) (Sum.inr kW : Key) (.ref wl)) (Sum.inr kN : Key) (.int 0) = _
    rw [h1, h2]
  rw [hm]
  refine q o wl _ no nw (Evl.Ex.mut (Ex.trs eo e1) no) ⟨upd_same, by rw [upd_ne wo]; exact hwl, rfl, fun i t e h1 h2 => by simp at h2⟩
theorem feet0 (b dn dw : Addr) : feet b dn dw [] = [b, dn, dw] := rfl
/-! ### law -/
def sp_k12_law (g : G) : Sp := fun vs H Q _ => ∃ a ns, vs = [.ref a] ∧ SqL g.K H a (ixs ns) ∧ ns.length ≤ 100 ∧ E12 g ∧ RC g ∧ ∀ H', Ex H H' → Q (.bl true) H'
/-- law: slots _law_script, _law_books, _law_owns, _law_k, _law_cell, _law_mix, _law_side -/
def t_k12_law (g : G) : TS :=
  tSeq (tAsg (tLst (tCons (tMake g.cRings (sp_Rings___init__ g) [] E0 tNil) (tCons (tMake g.cRings (sp_Rings___init__ g) [] E0 tNil) tNil))) (gName 1))
    (tSeq (tAsg (tLst (tCons (tDisp [(tC (.str (ST [119, 111, 114, 100, 115])), tLst tNil), (tC (.str (ST [110, 101, 120, 116])), tC (.int 0))]) (tCons (tDisp [(tC (.str (ST [119, 111, 114, 100, 115])), tLst tNil), (tC (.str (ST [110, 101, 120, 116])), tC (.int 0))]) tNil))) (gName 2))
    (tSeq (tFor (iEnum g.K (tCons (tSl (rSlU g.K) (tOp (uAdd g.K) (tLst (tCons (tC (.int 5)) tNil)) (tCB (rListU g.K) (tCons (tVar 0) tNil))) tNoPart (tPart (tC (.int 61)))) tNil)) (gTup g.K 2 (gCons (gName 3) (gCons (gName 4) gNil))) (tSeq (tAsg (tCall (sp_law_mixed g) [] E0 (tCons (tVar 4) (tCons (tOp (uAdd g.K) (tC (.int 410)) (tVar 3)) tNil))) (gName 5))
    (tSeq (tAsg (tOp uDiv (tOp uMod (tOp uDiv (tCall (sp_law_mixed g) [] E0 (tCons (tVar 5) (tCons (tC (.int 9)) tNil))) (tC (.int 7))) (tC (.int 4))) (tC (.int 3))) (gName 6))
    (tSeq (tIfS (tNot (tB (tCall (sp_k12_right g) [] E0 (tCons (tOp (rIx g.K) (tVar 1) (tVar 6)) (tCons (tOp (rIx g.K) (tVar 2) (tVar 6)) (tCons (tVar 5) tNil)))))) (tRet (tC (.bl false))) tNext)
    (tIfS (tOr (tNot (tB (tCall (sp_law_stands g) [] E0 (tCons (tOp (rIx g.K) (tVar 1) (tC (.int 0))) (tCons (tOp (rIx g.K) (tVar 2) (tC (.int 0))) tNil))))) (tNot (tB (tCall (sp_law_stands g) [] E0 (tCons (tOp (rIx g.K) (tVar 1) (tC (.int 1))) (tCons (tOp (rIx g.K) (tVar 2) (tC (.int 1))) tNil)))))) (tRet (tC (.bl false))) tNext)))))
    (tRet (tC (.bl true)))))
theorem c_k12_right (o : E12 g) (rc : RC g) {S : Side} {c : Int} (h : SideAt g H S) (hl : S.own.length ≤ 900) (q : ∀ (S' : Side) (H' : Hp), S'.b = S.b → S'.o = S.o → SideAt g H' S' → Fr (ftS S) H H' → Grow H (ftS S) (ftS S') → S'.own.length ≤ S.own.length + 1 → S'.nx ≤ S.nx + 1 → Q (.bl true) H') : sp_k12_right g [.ref S.b, .ref S.o, .int c] H Q E := ⟨o, rc, S, c, rfl, h, hl, q⟩
theorem c_law_stands (o : E12 g) (rc : RC g) {S : Side} (h : SideAt g H S) (hl : S.own.length ≤ 62) (hn : S.nx ≤ 1000) (q : ∀ H', Ex H H' → Q (.bl true) H') : sp_law_stands g [.ref S.b, .ref S.o] H Q E := ⟨o, rc, S, rfl, h, hl, hn, q⟩
theorem p_k12_law (h : sp_k12_law g vs H Q E) : t_k12_law g (D0 Q) (st0 7 vs) H := by
  obtain ⟨a, ns, rfl, ha, hns, o12, rc, q⟩ := h
  show t_k12_law g (D0 Q) [some (.ref a), none, none, none, none, none, none] H
  unfold t_k12_law
  refine x_seq (x_asg (x_lst0 (x_cons ?_)))
  refine x_mkBook rc fun b1 dn1 dw1 H1 nb1 ndn1 ndw1 e1 hB1 => ?_
  refine x_cons (x_mkBook rc fun b2 dn2 dw2 H2 nb2 ndn2 ndw2 e2 hB2 => ?_)
  walk_at "y"
  rename_i pb H3 npb e3 hpb
  refine x_mkOwn fun o1 wl1 H4 no1 nwl1 e4 hO1 => ?_
  walk_at "y"
  refine x_mkOwn fun o2 wl2 H5 no2 nwl2 e5 hO2 => ?_
  walk_at "y"
  rename_i po H6 npo e6 hpo
  refine x_forEnum ?_
  walk_at "y"
  rename_i p5 H7 np5 e7 hp5
  have eA : Ex H H7 := Ex.trs e1 (Ex.trs e2 (Ex.trs e3 (Ex.trs e4 (Ex.trs e5 (Ex.trs e6 e7)))))
  refine x_listL (ex_l eA ha) fun pn H8 npn e8 hpn => ?_
  walk_at "y"
  refine x_addL (e8 _ _ hp5) hpn (by unfold ixs; rw [sizeLine_eq]; simp; omega) fun pm H9 npm e9 hpm => ?_
  walk_at "y"
  refine x_slLhi (k := 61) (SqL.of hpm) fun pq H10 npq e10 hpq => ?_
  walk_at "y"
  refine ⟨pq, _, rfl, SqL.of hpq, ?_⟩
  -- the two sides
  have f23 := Ex.trs e2 e3
  have f410 := Ex.trs e5 (Ex.trs e6 (Ex.trs e7 (Ex.trs e8 (Ex.trs e9 e10))))
  have f310 := Ex.trs e4 f410
  have k1 := Ex.trs f23 f310
  have k2 := Ex.trs e3 f310
  have hBa := hB1.ex k1
  have hBb := hB2.ex k2
  have hOa := hO1.ex f410
  have hOb := hO2.ex (Ex.trs e6 (Ex.trs e7 (Ex.trs e8 (Ex.trs e9 e10))))
  -- what stands from when on
  have g1 : ∀ x ∈ [b1, dn1, dw1], H x = none ∧ H1 x ≠ none := fun x hx => by
    refine ⟨?_, fun z => ?_⟩
    · simp only [List.mem_cons, List.not_mem_nil, or_false] at hx
      rcases hx with rfl | rfl | rfl <;> assumption
    · obtain ⟨u, hu⟩ := hB1.has x (by rw [feet0]; exact hx)
      rw [hu] at z
      cases z
  have g2 : ∀ x ∈ [b2, dn2, dw2], H1 x = none ∧ H2 x ≠ none := fun x hx => by
    refine ⟨?_, fun z => ?_⟩
    · simp only [List.mem_cons, List.not_mem_nil, or_false] at hx
      rcases hx with rfl | rfl | rfl <;> assumption
    · obtain ⟨u, hu⟩ := hB2.has x (by rw [feet0]; exact hx)
      rw [hu] at z
      cases z
  have g3 : ∀ x ∈ [o1, wl1], H3 x = none ∧ H4 x ≠ none := fun x hx => by
    simp only [List.mem_cons, List.not_mem_nil, or_false] at hx
    rcases hx with rfl | rfl
    · exact ⟨no1, by rw [hO1.od]; exact fun z => nomatch z⟩
    · exact ⟨nwl1, by rw [hO1.ol]; exact fun z => nomatch z⟩
  have g4 : ∀ x ∈ [o2, wl2], H4 x = none ∧ H5 x ≠ none := fun x hx => by
    simp only [List.mem_cons, List.not_mem_nil, or_false] at hx
    rcases hx with rfl | rfl
    · exact ⟨no2, by rw [hO2.od]; exact fun z => nomatch z⟩
    · exact ⟨nwl2, by rw [hO2.ol]; exact fun z => nomatch z⟩
  have nn : ∀ {Ha Hb : Hp} {x : Addr}, Ex Ha Hb → Ha x ≠ none → Hb x ≠ none := fun {Ha Hb x} e h z => by
    cases k : Ha x with
    | none => exact h k
    | some u => rw [e _ _ k] at z; cases z
  have sep : ∀ {Hx : Hp} {x y : Addr}, Hx x ≠ none → Hx y = none → x ≠ y := fun h1 h2 z => h1 (by rw [z]; exact h2)
  have e12' := e2
  have e13 := f23
  have e14 := Ex.trs f23 e4
  have e15 := Ex.trs e14 e5
  have e59 := Ex.trs e6 (Ex.trs e7 (Ex.trs e8 e9))
  have TW : Two g H H10 [pb, po, pq] ⟨b1, dn1, dw1, o1, wl1, [], 0, [], []⟩ ⟨b2, dn2, dw2, o2, wl2, [], 0, [], []⟩ 0 := by
    refine ⟨⟨hBa, BookOk.nil, hOa, Link.nil, fun x hx => ?_⟩, ⟨hBb, BookOk.nil, hOb, Link.nil, fun x hx => ?_⟩, fun x hx hy => ?_, fun x hx => ?_, fun x hx => ?_, ⟨Nat.le_refl _, Nat.le_refl _⟩, ⟨Nat.le_refl _, Nat.le_refl _⟩, Ex.trs e1 k1, fun x hx => ?_⟩
    · have h1 := nn e13 (g1 x hx).2
      exact ⟨sep h1 (g3 o1 (by simp)).1, sep h1 (g3 wl1 (by simp)).1⟩
    · have h1 := nn (Ex.trs e3 e4) (g2 x hx).2
      exact ⟨sep h1 (g4 o2 (by simp)).1, sep h1 (g4 wl2 (by simp)).1⟩
    · rcases List.mem_append.mp (show x ∈ [o1, wl1] ++ [b1, dn1, dw1] from hx) with h | h <;> rcases List.mem_append.mp (show x ∈ [o2, wl2] ++ [b2, dn2, dw2] from hy) with k | k
      · exact (g3 x h).2 (g4 x k).1
      · exact nn e3 (g2 x k).2 (g3 x h).1
      · exact nn e14 (g1 x h).2 (g4 x k).1
      · exact (g1 x h).2 (g2 x k).1
    · rcases List.mem_append.mp (show x ∈ [o1, wl1] ++ [b1, dn1, dw1] from hx) with h | h
      · refine ⟨fresh_back (Ex.trs e1 e13) (g3 x h).1, fun z => ?_⟩
        simp only [List.mem_cons, List.not_mem_nil, or_false] at z
        have h4 := nn e5 (g3 x h).2
        rcases z with rfl | rfl | rfl
        · have h5 := (g3 _ h).1
          rw [hpb] at h5
          cases h5
        · exact h4 npo
        · exact nn e59 h4 npq
      · refine ⟨(g1 x h).1, fun z => ?_⟩
        simp only [List.mem_cons, List.not_mem_nil, or_false] at z
        have h1 := (g1 x h).2
        rcases z with rfl | rfl | rfl
        · exact nn e2 h1 npb
        · exact nn e15 h1 npo
        · exact nn e59 (nn e15 h1) npq
    · rcases List.mem_append.mp (show x ∈ [o2, wl2] ++ [b2, dn2, dw2] from hx) with h | h
      · refine ⟨fresh_back (Ex.trs e1 (Ex.trs e13 e4)) (g4 x h).1, fun z => ?_⟩
        simp only [List.mem_cons, List.not_mem_nil, or_false] at z
        rcases z with rfl | rfl | rfl
        · have := e4 _ _ hpb
          rw [(g4 _ h).1] at this
          cases this
        · exact (g4 _ h).2 npo
        · exact nn e59 (g4 _ h).2 npq
      · refine ⟨fresh_back e1 (g2 x h).1, fun z => ?_⟩
        simp only [List.mem_cons, List.not_mem_nil, or_false] at z
        have h1 := (g2 x h).2
        rcases z with rfl | rfl | rfl
        · exact h1 npb
        · exact nn (Ex.trs e3 (Ex.trs e4 e5)) h1 npo
        · exact nn e59 (nn (Ex.trs e3 (Ex.trs e4 e5)) h1) npq
    · simp only [List.mem_cons, List.not_mem_nil, or_false] at hx
      rcases hx with rfl | rfl | rfl
      · rw [f310 _ _ hpb]
        exact fun z => nomatch z
      · rw [e10 _ _ (e9 _ _ (e8 _ _ (e7 _ _ hpo)))]
        exact fun z => nomatch z
      · rw [hpq]
        exact fun z => nomatch z
  have hpb0 := f310 _ _ hpb
  have hpo0 := e10 _ _ (e9 _ _ (e8 _ _ (e7 _ _ hpo)))
  clear g1 g2 g3 g4 nn sep e12' e13 e14 e15 e59 hBa hBb hOa hOb k1 k2 f23 f410 f310 hB1 hB2 hO1 hO2 e1 e2 e3 e4 e5 e6 e7 e8 e9 e10 eA hpb hpo
  refine x_forE (K := g.K) (a := pq) (xs := ([V.int 5] ++ ixs ns).take 61) (fun (k : Nat) (t : Option V × Option V × Option V × Option V) => [some (.ref a), some (.ref pb), some (.ref po), t.1, t.2.1, t.2.2.1, t.2.2.2]) (fun (k : Nat) (t : Option V × Option V × Option V × Option V) (H' : Hp) => ∃ A B : Side, A.b = b1 ∧ A.o = o1 ∧ B.b = b2 ∧ B.o = o2 ∧ Two g H H' [pb, po, pq] A B k ∧ H' pb = some (.lst [.ref b1, .ref b2]) ∧ H' po = some (.lst [.ref o1, .ref o2]) ∧ H' pq = some (.lst (([V.int 5] ++ ixs ns).take 61))) (none, none, none, none) rfl ⟨_, _, rfl, rfl, rfl, rfl, TW, hpb0, hpo0, hpq⟩ (fun k t H' I => ?_) (fun k v t H11 H12 hk I e12 => ?_) fun t H11 I => ?_
  · obtain ⟨_, _, _, _, _, _, _, _, _, h⟩ := I
    exact SqL.of h
  · have hk61 : k < 61 := by
      have := (List.getElem?_eq_some_iff.mp hk).1
      rw [List.length_take] at this
      omega
    obtain ⟨n1, rfl⟩ : ∃ n1 : Int, v = .int n1 := by
      have hm := List.mem_of_mem_take (List.mem_of_getElem? hk)
      rcases List.mem_append.mp hm with hm | hm
      · exact ⟨5, List.mem_singleton.mp hm⟩
      · obtain ⟨n, _, rfl⟩ := List.mem_map.mp hm
        exact ⟨n, rfl⟩
    obtain ⟨A, B, hAb, hAo, hBb, hBo, two, hpb1, hpo1, hpq1⟩ := I
    show tSeq _ _ _ [some (.ref a), some (.ref pb), some (.ref po), some (.int (k : Int)), some (.int n1), t.2.2.1, t.2.2.2] H12
    walk_at "y"
    rename_i m1 K1 _ _ k1 m2 K2 _ _ k2
    have two := two.ext (Ex.trs e12 (Ex.trs k1 k2))
    have hpb1 := k2 _ _ (k1 _ _ (e12 _ _ hpb1))
    have hpo1 := k2 _ _ (k1 _ _ (e12 _ _ hpo1))
    have hpq1 := k2 _ _ (k1 _ _ (e12 _ _ hpq1))
    have hla := two.la
    have hlb := two.lb
    rcases (by omega : m2 / 7 % 4 / 3 = 0 ∨ m2 / 7 % 4 / 3 = 1) with hs | hs
    · rw [hs]
      refine x_ixL (SqL.of hpb1) (atI_nat (j := 0) rfl) ?_
      walk_at "y"
      refine x_ixL (SqL.of hpo1) (atI_nat (j := 0) rfl) ?_
      walk_at "y"
      refine ⟨o12, rc, A, _, by rw [hAb, hAo], two.a, by omega, fun A' K3 hb' ho' hA' hF hG l1 l2 => ?_⟩
      have hb'' := hb'.trans hAb
      have ho'' := ho'.trans hAo
      have hBb' := hBb
      have hBo' := hBo
      have two' := two.step hA' hF hG l1 l2
      -- both stand
      have TWO := two'.1
      have kp := two'.2
      have hpb' := kp pb (by simp) _ hpb1
      have hpo' := kp po (by simp) _ hpo1
      have hpq' := kp pq (by simp) _ hpq1
      walk_at "y"
      refine x_no rfl ?_
      walk_at "y"
      refine x_ixL (SqL.of hpb') (atI_nat (j := 0) rfl) ?_
      walk_at "y"
      refine x_ixL (SqL.of hpo') (atI_nat (j := 0) rfl) ?_
      walk_at "y"
      have t1 := TWO.a
      have t2 := TWO.b
      refine ⟨o12, rc, _, by rw [hb'', ho''], t1, by have := TWO.la; omega, by have := TWO.la; omega, fun K4 k4 => ?_⟩
      walk_at "y"
      refine x_if0 rfl ?_
      walk_at "y"
      refine x_ixL (SqL.of (k4 _ _ hpb')) (atI_nat (j := 1) rfl) ?_
      walk_at "y"
      refine x_ixL (SqL.of (k4 _ _ hpo')) (atI_nat (j := 1) rfl) ?_
      walk_at "y"
      refine ⟨o12, rc, _, by rw [hBb', hBo'], t2.ex k4, by have := TWO.lb; omega, by have := TWO.lb; omega, fun K5 k5 => ?_⟩
      walk_at "y"
      try with_reducible refine x_no rfl ?_
      walk_at "y"
      have k45 := Ex.trs k4 k5
      exact ⟨(_, _, _, _), rfl, _, _, hb'', ho'', hBb', hBo', TWO.ext k45, k45 _ _ hpb', k45 _ _ hpo', k45 _ _ hpq'⟩
    · rw [hs]
      refine x_ixL (SqL.of hpb1) (atI_nat (j := 1) rfl) ?_
      walk_at "y"
      refine x_ixL (SqL.of hpo1) (atI_nat (j := 1) rfl) ?_
      walk_at "y"
      refine ⟨o12, rc, B, _, by rw [hBb, hBo], two.b, by omega, fun B' K3 hb' ho' hB' hF hG l1 l2 => ?_⟩
      have hb'' := hb'.trans hBb
      have ho'' := ho'.trans hBo
      have hAb' := hAb
      have hAo' := hAo
      have two' := two.swap.step hB' hF hG l1 l2
      -- both stand
      have TWO := two'.1
      have kp := two'.2
      have hpb' := kp pb (by simp) _ hpb1
      have hpo' := kp po (by simp) _ hpo1
      have hpq' := kp pq (by simp) _ hpq1
      walk_at "y"
      refine x_no rfl ?_
      walk_at "y"
      refine x_ixL (SqL.of hpb') (atI_nat (j := 0) rfl) ?_
      walk_at "y"
      refine x_ixL (SqL.of hpo') (atI_nat (j := 0) rfl) ?_
      walk_at "y"
      have t1 := TWO.b
      have t2 := TWO.a
      refine ⟨o12, rc, _, by rw [hAb', hAo'], t1, by have := TWO.lb; omega, by have := TWO.lb; omega, fun K4 k4 => ?_⟩
      walk_at "y"
      refine x_if0 rfl ?_
      walk_at "y"
      refine x_ixL (SqL.of (k4 _ _ hpb')) (atI_nat (j := 1) rfl) ?_
      walk_at "y"
      refine x_ixL (SqL.of (k4 _ _ hpo')) (atI_nat (j := 1) rfl) ?_
      walk_at "y"
      refine ⟨o12, rc, _, by rw [hb'', ho''], t2.ex k4, by have := TWO.la; omega, by have := TWO.la; omega, fun K5 k5 => ?_⟩
      walk_at "y"
      try with_reducible refine x_no rfl ?_
      walk_at "y"
      have k45 := Ex.trs k4 k5
      exact ⟨(_, _, _, _), rfl, _, _, hAb', hAo', hb'', ho'', TWO.swap.ext k45, k45 _ _ hpb', k45 _ _ hpo', k45 _ _ hpq'⟩
  · obtain ⟨A, B, _, _, _, _, two, _⟩ := I
    walk_at "y"
    exact q _ two.ex
theorem len_law_ring (h : sp_law_ring g vs H Q E) : vs.length = 2 := by
  obtain ⟨_, _, _, _, _, _, rfl, _⟩ := h
  rfl
theorem len_law_due (h : sp_law_due g vs H Q E) : vs.length = 3 := by
  obtain ⟨_, _, _, _, _, _, _, rfl, _⟩ := h
  rfl
theorem len_k12_told (h : sp_k12_told g vs H Q E) : vs.length = 3 := by
  obtain ⟨_, _, h⟩ := h
  rcases h with h | h | h
  · obtain ⟨_, _, _, _, _, _, _, _, rfl, _⟩ := h
    rfl
  · obtain ⟨_, _, _, _, _, _, rfl, _⟩ := h
    rfl
  · obtain ⟨_, _, _, _, _, _, _, rfl, _⟩ := h
    rfl
end
end RW

namespace RW
open PySem PySem.Spec PyProof.Rows L2
open Evl (Ex ex_l ex_t ex_rd fresh_back)
open RZ (iZipA ItzT pi_zipA)
/-! ### the text -/
def topS (i : Nat) : Stmt := PySem.Challenge.pw_ringword_k12_book.main.body.getD i (.Pass ⟨0, 0, 0, 0⟩)
abbrev s_is_word : Stmt := topS 11
theorem sc_is_word : FnScope ["thing", "sign"] ["thing"] (defScope s_is_word) := ⟨rfl, rfl, rfl, by decide +kernel, rfl, by decide +kernel, by decide +kernel⟩
abbrev s_from_place : Stmt := topS 13
theorem sc_from_place : FnScope ["word", "place"] ["word", "place"] (defScope s_from_place) := ⟨rfl, rfl, rfl, by decide +kernel, rfl, by decide +kernel, by decide +kernel⟩
abbrev s_least_place : Stmt := topS 15
theorem sc_least_place : FnScope ["word", "one", "other", "alike", "many", "first", "second"] ["word"] (defScope s_least_place) := ⟨rfl, rfl, rfl, by decide +kernel, rfl, by decide +kernel, by decide +kernel⟩
abbrev s_Rings___init__ : Stmt := inClass (topS 18) 0
theorem sc_Rings___init__ : FnScope ["self"] ["self"] (defScope s_Rings___init__) := ⟨rfl, rfl, rfl, by decide +kernel, rfl, by decide +kernel, by decide +kernel⟩
abbrev s_Rings_members : Stmt := inClass (topS 18) 5
theorem sc_Rings_members : FnScope ["self", "number"] ["self", "number"] (defScope s_Rings_members) := ⟨rfl, rfl, rfl, by decide +kernel, rfl, by decide +kernel, by decide +kernel⟩
abbrev s_Rings_forms : Stmt := inClass (topS 18) 6
theorem sc_Rings_forms : FnScope ["self", "form", "number"] ["self"] (defScope s_Rings_forms) := ⟨rfl, rfl, rfl, by decide +kernel, rfl, by decide +kernel, by decide +kernel⟩
abbrev s_Rings_many : Stmt := inClass (topS 18) 7
theorem sc_Rings_many : FnScope ["self", "words"] ["self"] (defScope s_Rings_many) := ⟨rfl, rfl, rfl, by decide +kernel, rfl, by decide +kernel, by decide +kernel⟩
abbrev s_law_mixed : Stmt := topS 21
theorem sc_law_mixed : FnScope ["_law_cell", "_law_k", "_law_mix"] ["_law_cell", "_law_k"] (defScope s_law_mixed) := ⟨rfl, rfl, rfl, by decide +kernel, rfl, by decide +kernel, by decide +kernel⟩
abbrev s_law_whole : Stmt := topS 22
theorem sc_law_whole : FnScope ["_law_found", "_law_due_here"] ["_law_found", "_law_due_here"] (defScope s_law_whole) := ⟨rfl, rfl, rfl, by decide +kernel, rfl, by decide +kernel, by decide +kernel⟩
abbrev s_law_turnings : Stmt := topS 24
theorem sc_law_turnings : FnScope ["_law_word", "_law_k"] ["_law_word"] (defScope s_law_turnings) := ⟨rfl, rfl, rfl, by decide +kernel, rfl, by decide +kernel, by decide +kernel⟩
abbrev s_law_no_word : Stmt := topS 25
theorem sc_law_no_word : FnScope ["_law_mix", "_law_some"] ["_law_mix"] (defScope s_law_no_word) := ⟨rfl, rfl, rfl, by decide +kernel, rfl, by decide +kernel, by decide +kernel⟩
abbrev s_law_mark : Stmt := topS 26
theorem sc_law_mark : FnScope ["_law_e", "_law_some"] ["_law_e"] (defScope s_law_mark) := ⟨rfl, rfl, rfl, by decide +kernel, rfl, by decide +kernel, by decide +kernel⟩
abbrev s_need_word : Stmt := topS 12
theorem sc_need_word : FnScope ["thing"] ["thing"] (defScope s_need_word) := ⟨rfl, rfl, rfl, by decide +kernel, rfl, by decide +kernel, by decide +kernel⟩
abbrev s_law_drawn : Stmt := topS 23
theorem sc_law_drawn : FnScope ["_law_cell", "_law_signs", "_law_many", "_law_k"] ["_law_cell", "_law_signs", "_law_many"] (defScope s_law_drawn) := ⟨rfl, rfl, rfl, by decide +kernel, rfl, by decide +kernel, by decide +kernel⟩
abbrev s_law_ring : Stmt := topS 27
theorem sc_law_ring : FnScope ["_law_own", "_law_word", "_law_one", "_law_number"] ["_law_own", "_law_word"] (defScope s_law_ring) := ⟨rfl, rfl, rfl, by decide +kernel, rfl, by decide +kernel, by decide +kernel⟩
abbrev s_least_form : Stmt := topS 16
theorem sc_least_form : FnScope ["word"] ["word"] (defScope s_least_form) := ⟨rfl, rfl, rfl, by decide +kernel, rfl, by decide +kernel, by decide +kernel⟩
abbrev s_law_due : Stmt := topS 28
theorem sc_law_due : FnScope ["_law_own", "_law_way", "_law_word", "_law_number", "_law_there", "_law_one", "_law_other"] ["_law_own", "_law_way", "_law_word"] (defScope s_law_due) := ⟨rfl, rfl, rfl, by decide +kernel, rfl, by decide +kernel, by decide +kernel⟩
abbrev s_Rings_add : Stmt := inClass (topS 18) 1
theorem sc_Rings_add : FnScope ["self", "word", "form", "number"] ["self", "word"] (defScope s_Rings_add) := ⟨rfl, rfl, rfl, by decide +kernel, rfl, by decide +kernel, by decide +kernel⟩
abbrev s_Rings_take : Stmt := inClass (topS 18) 2
theorem sc_Rings_take : FnScope ["self", "word", "form", "number"] ["self", "word"] (defScope s_Rings_take) := ⟨rfl, rfl, rfl, by decide +kernel, rfl, by decide +kernel, by decide +kernel⟩
abbrev s_Rings_ring_of : Stmt := inClass (topS 18) 3
theorem sc_Rings_ring_of : FnScope ["self", "word"] ["self", "word"] (defScope s_Rings_ring_of) := ⟨rfl, rfl, rfl, by decide +kernel, rfl, by decide +kernel, by decide +kernel⟩
abbrev s_Rings_others : Stmt := inClass (topS 18) 4
theorem sc_Rings_others : FnScope ["self", "word", "number", "one"] ["self", "word"] (defScope s_Rings_others) := ⟨rfl, rfl, rfl, by decide +kernel, rfl, by decide +kernel, by decide +kernel⟩
abbrev s_law_told : Stmt := topS 29
theorem sc_law_told : FnScope ["_law_book", "_law_way", "_law_thing", "_law_found", "_law_e"] ["_law_book", "_law_way", "_law_thing"] (defScope s_law_told) := ⟨rfl, rfl, rfl, by decide +kernel, rfl, by decide +kernel, by decide +kernel⟩
abbrev s_law_stands : Stmt := topS 30
theorem sc_law_stands : FnScope ["_law_book", "_law_own", "_law_numbers", "_law_number", "_law_due_here", "_law_words", "_law_found", "_law_forms", "_law_word", "_law_other"] ["_law_book", "_law_own"] (defScope s_law_stands) := ⟨rfl, rfl, rfl, by decide +kernel, rfl, by decide +kernel, by decide +kernel⟩
abbrev s_law_right : Stmt := topS 31
theorem sc_law_right : FnScope ["_law_book", "_law_own", "_law_cell", "_law_word", "_law_old", "_law_way", "_law_found", "_law_due_here"] ["_law_book", "_law_own", "_law_cell"] (defScope s_law_right) := ⟨rfl, rfl, rfl, by decide +kernel, rfl, by decide +kernel, by decide +kernel⟩
abbrev s_law : Stmt := topS 32
theorem sc_law : FnScope ["_law_script", "_law_books", "_law_owns", "_law_k", "_law_cell", "_law_mix", "_law_side"] ["_law_script"] (defScope s_law) := ⟨rfl, rfl, rfl, by decide +kernel, rfl, by decide +kernel, by decide +kernel⟩
/-- what the top has written -/
structure Txt (g : G) (mg : Str → Option Value) : Prop where
  nValueError : mg "ValueError" = none
  nall : mg "all" = none
  nbool : mg "bool" = none
  nenumerate : mg "enumerate" = none
  nint : mg "int" = none
  nisinstance : mg "isinstance" = none
  nlen : mg "len" = none
  nlist : mg "list" = none
  nmin : mg "min" = none
  nrange : mg "range" = none
  nset : mg "set" = none
  nsorted : mg "sorted" = none
  nstr : mg "str" = none
  nsum : mg "sum" = none
  kLETTERS : ∃ t, mg "LETTERS" = some (.str ("abcdefghijklmnopqrstuvwxyz" : Str) t)
  kLONGEST : ∃ t, mg "LONGEST" = some (.int 300 t)
  cWordError : mg "WordError" = some (.ref g.cWordError)
  cNoWord : mg "NoWord" = some (.ref g.cNoWord)
  cNoSigns : mg "NoSigns" = some (.ref g.cNoSigns)
  cNoCount : mg "NoCount" = some (.ref g.cNoCount)
  cTooMany : mg "TooMany" = some (.ref g.cTooMany)
  cNoRing : mg "NoRing" = some (.ref g.cNoRing)
  cTwice : mg "Twice" = some (.ref g.cTwice)
  cRings : mg "Rings" = some (.ref g.cRings)
  rc : RC g
  eNoRing : ErrC g.K mg "NoRing" g.cNoRing [.type "ValueError", .type "Exception", .type "BaseException", .type "object"]
  eNoWord : ErrC g.K mg "NoWord" g.cNoWord [.type "ValueError", .type "Exception", .type "BaseException", .type "object"]
  eTwice : ErrC g.K mg "Twice" g.cTwice [.type "ValueError", .type "Exception", .type "BaseException", .type "object"]
def sp_top (K : Frag) : Sp := fun vs H Q _ => ∃ (a : Addr) (ns : List Int), vs = [.ref a] ∧ SqL K H a (ns.map V.int) ∧ ns.length ≤ 63 ∧ ∀ H', Q (.bl true) H'
section
variable {P : Program} {w : World} {g : G} {mg : Str → Option Value} {base : Heap}
theorem has_is_word (T : Txt g mg) (A : At g.K mg "is_word" s_is_word)  : Has P w g.K mg base CX0 1 "is_word" ["thing"] (sp_is_word g) :=
  has_of A sc_is_word (fun vs H Q E h => by first | (obtain ⟨_, rfl, _⟩ := h; rfl; done) | (obtain ⟨_, _, rfl, _⟩ := h; rfl; done) | (obtain ⟨_, _, _, rfl, _⟩ := h; rfl; done) | (obtain ⟨_, _, _, _, rfl, _⟩ := h; rfl; done) | (obtain ⟨_, _, _, _, _, rfl, _⟩ := h; rfl; done) | (rcases h with ⟨_, (⟨_, _, rfl, _⟩ | ⟨_, _, _, _, rfl, _⟩)⟩ <;> rfl; done) | (rcases h with ⟨_, (⟨_, _, _, _, rfl, _⟩ | ⟨_, _, _, _, _, rfl, _⟩)⟩ <;> rfl; done) | (rcases h with h | h <;> first | (obtain ⟨_, rfl, _⟩ := h; rfl; done) | (obtain ⟨_, _, rfl, _⟩ := h; rfl; done) | (obtain ⟨_, _, _, rfl, _⟩ := h; rfl; done) | (obtain ⟨_, _, _, _, rfl, _⟩ := h; rfl; done) | (obtain ⟨_, _, _, _, _, rfl, _⟩ := h; rfl; done)) | (rcases h with h | h | h <;> first | (obtain ⟨_, rfl, _⟩ := h; rfl; done) | (obtain ⟨_, _, rfl, _⟩ := h; rfl; done) | (obtain ⟨_, _, _, rfl, _⟩ := h; rfl; done) | (obtain ⟨_, _, _, _, rfl, _⟩ := h; rfl; done) | (obtain ⟨_, _, _, _, _, rfl, _⟩ := h; rfl; done)))
    (fun _ _ _ _ _ _ us hl => match us, hl with | [_], _ => rfl)
    fun f cdv A outer s H vs Q E hr h => ⟨t_is_word g, pss_cons (ps_if (PW.pt (pw_or (pt_not (pt_val (pe_callB call_isU (by rfl) T.nisinstance (by decide +kernel) (pa_cons (pv 0) (pa_cons (pe_bltn (v := .ty "str") (by rfl) T.nstr (by decide +kernel) rfl) pa_nil))))) (pw_or1 (pt_not (pt_chain op_uLe op_uLe pe_int (pe_callB call_len (by rfl) T.nlen (by decide +kernel) (pa_cons (pv 0) pa_nil)) (pe_glob (v := .int 300) (by rfl) T.kLONGEST.choose_spec ⟨_, rfl⟩)))))) (pss_one (ps_ret pe_bl)) pss_nil)
    (pss_one (ps_ret (pe_callB (cr_all rfl) (by rfl) T.nall (by decide +kernel) (pa_cons (pe_lc (own := [("sign", 1)]) (g := gName 1) (tt := tYes) rfl sc_is_word.nd (pi_u (pv 0)) (blkOk_by (show blkC ["thing", "sign"] (defScope s_is_word) _ _ = true by decide +kernel)) (fun _ _ _ _ _ => pg_name (i := 1) sc_is_word.nd rfl (by first | exact .inl rfl | exact .inr rfl)) (fun _ _ _ _ _ => pts_nil) (fun _ _ _ _ _ => pe_cmpR op_uIn (pv 1) (pe_globS (l := [97, 98, 99, 100, 101, 102, 103, 104, 105, 106, 107, 108, 109, 110, 111, 112, 113, 114, 115, 116, 117, 118, 119, 120, 121, 122]) (by decide +kernel) (by rfl) T.kLETTERS.choose_spec) (by rfl))) pa_nil)))), p_is_word h⟩
theorem has_from_place (T : Txt g mg) (A : At g.K mg "from_place" s_from_place)  : Has P w g.K mg base CX0 1 "from_place" ["word", "place"] (sp_from_place g) :=
  has_of A sc_from_place (fun vs H Q E h => by first | (obtain ⟨_, rfl, _⟩ := h; rfl; done) | (obtain ⟨_, _, rfl, _⟩ := h; rfl; done) | (obtain ⟨_, _, _, rfl, _⟩ := h; rfl; done) | (obtain ⟨_, _, _, _, rfl, _⟩ := h; rfl; done) | (obtain ⟨_, _, _, _, _, rfl, _⟩ := h; rfl; done) | (rcases h with ⟨_, (⟨_, _, rfl, _⟩ | ⟨_, _, _, _, rfl, _⟩)⟩ <;> rfl; done) | (rcases h with ⟨_, (⟨_, _, _, _, rfl, _⟩ | ⟨_, _, _, _, _, rfl, _⟩)⟩ <;> rfl; done) | (rcases h with h | h <;> first | (obtain ⟨_, rfl, _⟩ := h; rfl; done) | (obtain ⟨_, _, rfl, _⟩ := h; rfl; done) | (obtain ⟨_, _, _, rfl, _⟩ := h; rfl; done) | (obtain ⟨_, _, _, _, rfl, _⟩ := h; rfl; done) | (obtain ⟨_, _, _, _, _, rfl, _⟩ := h; rfl; done)) | (rcases h with h | h | h <;> first | (obtain ⟨_, rfl, _⟩ := h; rfl; done) | (obtain ⟨_, _, rfl, _⟩ := h; rfl; done) | (obtain ⟨_, _, _, rfl, _⟩ := h; rfl; done) | (obtain ⟨_, _, _, _, rfl, _⟩ := h; rfl; done) | (obtain ⟨_, _, _, _, _, rfl, _⟩ := h; rfl; done)))
    (fun _ _ _ _ _ _ us hl => match us, hl with | [_, _], _ => rfl)
    fun f cdv A outer s H vs Q E hr h => ⟨t_from_place g, pss_one (ps_ret (pe_op op_uAdd (pe_slice sl_u (pv 0) (po_some (pv 1)) po_none) (pe_slice sl_u (pv 0) po_none (po_some (pv 1))))), p_from_place h⟩
theorem has_least_place (T : Txt g mg) (A : At g.K mg "least_place" s_least_place)  : Has P w g.K mg base CX0 1 "least_place" ["word"] (sp_least_place g) :=
  has_of A sc_least_place (fun vs H Q E h => by first | (obtain ⟨_, rfl, _⟩ := h; rfl; done) | (obtain ⟨_, _, rfl, _⟩ := h; rfl; done) | (obtain ⟨_, _, _, rfl, _⟩ := h; rfl; done) | (obtain ⟨_, _, _, _, rfl, _⟩ := h; rfl; done) | (obtain ⟨_, _, _, _, _, rfl, _⟩ := h; rfl; done) | (rcases h with ⟨_, (⟨_, _, rfl, _⟩ | ⟨_, _, _, _, rfl, _⟩)⟩ <;> rfl; done) | (rcases h with ⟨_, (⟨_, _, _, _, rfl, _⟩ | ⟨_, _, _, _, _, rfl, _⟩)⟩ <;> rfl; done) | (rcases h with h | h <;> first | (obtain ⟨_, rfl, _⟩ := h; rfl; done) | (obtain ⟨_, _, rfl, _⟩ := h; rfl; done) | (obtain ⟨_, _, _, rfl, _⟩ := h; rfl; done) | (obtain ⟨_, _, _, _, rfl, _⟩ := h; rfl; done) | (obtain ⟨_, _, _, _, _, rfl, _⟩ := h; rfl; done)) | (rcases h with h | h | h <;> first | (obtain ⟨_, rfl, _⟩ := h; rfl; done) | (obtain ⟨_, _, rfl, _⟩ := h; rfl; done) | (obtain ⟨_, _, _, rfl, _⟩ := h; rfl; done) | (obtain ⟨_, _, _, _, rfl, _⟩ := h; rfl; done) | (obtain ⟨_, _, _, _, _, rfl, _⟩ := h; rfl; done)))
    (fun _ _ _ _ _ _ us hl => match us, hl with | [_], _ => rfl)
    fun f cdv A outer s H vs Q E hr h => ⟨t_least_place g, pss_cons (ps_set (i := 1) sc_least_place.nd rfl (.inl rfl) pe_int)
    (pss_cons (ps_set (i := 2) sc_least_place.nd rfl (.inl rfl) pe_int)
    (pss_cons (ps_set (i := 3) sc_least_place.nd rfl (.inl rfl) pe_int)
    (pss_cons (ps_set (i := 4) sc_least_place.nd rfl (.inl rfl) (pe_callB call_len (by rfl) T.nlen (by decide +kernel) (pa_cons (pv 0) pa_nil)))
    (pss_cons (ps_while PassesOwn.never (PW.pt (pw_and (pt_cmpR op_uLt (pv 1) (pv 4) (nomark _)) (pw_and (pt_cmpR op_uLt (pv 2) (pv 4) (nomark _)) (pw_and1 (pt_cmpR op_uLt (pv 3) (pv 4) (nomark _)))))) (pss_cons (ps_set (i := 5) sc_least_place.nd rfl (.inl rfl) (pe_ix ix_seq (pv 0) (pe_op op_uMod (pe_op op_uAdd (pv 1) (pv 3)) (pv 4)) (fun _ _ => rfl)))
    (pss_cons (ps_set (i := 6) sc_least_place.nd rfl (.inl rfl) (pe_ix ix_seq (pv 0) (pe_op op_uMod (pe_op op_uAdd (pv 2) (pv 3)) (pv 4)) (fun _ _ => rfl)))
    (pss_cons (ps_if (pt_cmpR (op_uEq hr.units) (pv 5) (pv 6) (nomark _)) (pss_cons (ps_aug (i := 3) sc_least_place.nd rfl (.inl rfl) pe_int ip_add)
    (pss_one ps_continue)) pss_nil)
    (pss_cons (ps_if (pt_cmpR op_uGt (pv 5) (pv 6) (nomark _)) (pss_one (ps_aug (i := 1) sc_least_place.nd rfl (.inl rfl) (pe_op op_uAdd (pv 3) pe_int) ip_add)) (pss_one (ps_aug (i := 2) sc_least_place.nd rfl (.inl rfl) (pe_op op_uAdd (pv 3) pe_int) ip_add)))
    (pss_cons (ps_if (pt_cmpR (op_uEq hr.units) (pv 1) (pv 2) (nomark _)) (pss_one (ps_aug (i := 2) sc_least_place.nd rfl (.inl rfl) pe_int ip_add)) pss_nil)
    (pss_one (ps_set (i := 3) sc_least_place.nd rfl (.inl rfl) pe_int))))))))
    (pss_one (ps_ret (pe_callB (cr_minU rfl hr.units) (by rfl) T.nmin (by decide +kernel) (pa_cons (pv 1) (pa_cons (pv 2) pa_nil))))))))), p_least_place h⟩
theorem has_Rings___init__ (T : Txt g mg) (A : AtI g.K g.cRings "Rings.__init__" s_Rings___init__)  : HasI P w g.K mg base 1 g.cRings (sp_Rings___init__ g) :=
  hasI_of A sc_Rings___init__ (fun vs H Q E h => len_Rings___init__ h)
    (fun _ _ _ _ _ _ us hl => match us, hl with | [_], _ => rfl)
    fun f cdv A outer s H vs Q E hr h => ⟨t_Rings___init__ g, pss_cons (ps_fld (pv 0) pe_dnewK rfl)
    (pss_cons (ps_fld (pv 0) pe_dnewK rfl)
    (pss_one (ps_fld (pv 0) pe_int rfl))), p_Rings___init__ h⟩
theorem has_Rings_members (T : Txt g mg) (A : AtM g.K g.cRings "members" "Rings.members" s_Rings_members)  : HasM P w g.K mg base (L2.CX P w) 1 g.cRings "members" ["self", "number"] (sp_k12_Rings_members g) :=
  hasMX_of A sc_Rings_members (fun vs H Q E h => len_k12_Rings_members h)
    (fun _ _ _ _ _ _ us hl => match us, hl with | [_, _], _ => rfl)
    fun f cdv A outer s H vs Q E hr h => have hu := hu_of hr; ⟨t_k12_Rings_members g E, pss_cons (ps_if (pt_cmp (pc_dnotin hu (pv 1) (pe_fld (pv 0) rfl))) (pss_one (ps_raise rfl (takes_of rfl rfl rfl rfl) (pmk_own PySem.F.excBase_ValueError T.eNoRing.x T.eNoRing.g T.eNoRing.k (raises_own T.eNoRing.b T.eNoRing.t) (by rfl)))) pss_nil)
    (pss_one (ps_ret (pe_callTy (call_listU rfl) (by rfl) T.nlist (by decide +kernel) (pa_cons (pe_dget hu (pe_fld (pv 0) rfl) (pv 1) (fun _ _ => rfl)) pa_nil)))), p_k12_Rings_members h⟩
theorem has_Rings_forms (T : Txt g mg) (A : AtM g.K g.cRings "forms" "Rings.forms" s_Rings_forms)  : HasM P w g.K mg base CX0 1 g.cRings "forms" ["self"] (sp_Rings_forms g) :=
  hasM_of A sc_Rings_forms (fun vs H Q E h => len_Rings_forms h)
    (fun _ _ _ _ _ _ us hl => match us, hl with | [_], _ => rfl)
    fun f cdv A outer s H vs Q E hr h => ⟨t_Rings_forms g, pss_one (ps_ret (pe_callB cr_sortedPS (by rfl) T.nsorted (by decide +kernel) (pa_cons (pe_lock (pe_lc (own := [("form", 1), ("number", 2)]) (g := gTup g.K 2 (gCons (gName 1) (gCons (gName 2) gNil))) (tt := tYes) rfl sc_Rings_forms.nd (pi_items (pe_fld (pv 0) rfl)) (blkOk_by (show blkC ["self", "form", "number"] (defScope s_Rings_forms) _ _ = true by decide +kernel)) (fun _ _ _ _ _ => pg_tup rfl (pgs_cons (pg_name (i := 1) sc_Rings_forms.nd rfl (by first | exact .inl rfl | exact .inr rfl)) (pgs_cons (pg_name (i := 2) sc_Rings_forms.nd rfl (by first | exact .inl rfl | exact .inr rfl)) pgs_nil))) (fun _ _ _ _ _ => pts_nil) (fun _ _ _ _ _ => pe_tup (pa_cons (pv 2) (pa_cons (pv 1) pa_nil))))) pa_nil))), p_Rings_forms h⟩
theorem has_Rings_many (T : Txt g mg) (A : AtM g.K g.cRings "many" "Rings.many" s_Rings_many)  : HasM P w g.K mg base CX0 1 g.cRings "many" ["self"] (sp_Rings_many g) :=
  hasM_of A sc_Rings_many (fun vs H Q E h => len_Rings_many h)
    (fun _ _ _ _ _ _ us hl => match us, hl with | [_], _ => rfl)
    fun f cdv A outer s H vs Q E hr h => ⟨t_Rings_many g, pss_one (ps_ret (pe_callB (cr_sum rfl) (by rfl) T.nsum (by decide +kernel) (pa_cons (pe_lock (pe_lc (own := [("words", 1)]) (g := gName 1) (tt := tYes) rfl sc_Rings_many.nd (pi_values (pe_fld (pv 0) rfl)) (blkOk_by (show blkC ["self", "words"] (defScope s_Rings_many) _ _ = true by decide +kernel)) (fun _ _ _ _ _ => pg_name (i := 1) sc_Rings_many.nd rfl (by first | exact .inl rfl | exact .inr rfl)) (fun _ _ _ _ _ => pts_nil) (fun _ _ _ _ _ => pe_callB call_len (by rfl) T.nlen (by decide +kernel) (pa_cons (pv 1) pa_nil)))) pa_nil))), p_Rings_many h⟩
theorem has_law_mixed (T : Txt g mg) (A : At g.K mg "_law_mixed" s_law_mixed)  : Has P w g.K mg base CX0 1 "_law_mixed" ["_law_cell", "_law_k"] (sp_law_mixed g) :=
  has_of A sc_law_mixed (fun vs H Q E h => by first | (obtain ⟨_, rfl, _⟩ := h; rfl; done) | (obtain ⟨_, _, rfl, _⟩ := h; rfl; done) | (obtain ⟨_, _, _, rfl, _⟩ := h; rfl; done) | (obtain ⟨_, _, _, _, rfl, _⟩ := h; rfl; done) | (obtain ⟨_, _, _, _, _, rfl, _⟩ := h; rfl; done) | (rcases h with ⟨_, (⟨_, _, rfl, _⟩ | ⟨_, _, _, _, rfl, _⟩)⟩ <;> rfl; done) | (rcases h with ⟨_, (⟨_, _, _, _, rfl, _⟩ | ⟨_, _, _, _, _, rfl, _⟩)⟩ <;> rfl; done) | (rcases h with h | h <;> first | (obtain ⟨_, rfl, _⟩ := h; rfl; done) | (obtain ⟨_, _, rfl, _⟩ := h; rfl; done) | (obtain ⟨_, _, _, rfl, _⟩ := h; rfl; done) | (obtain ⟨_, _, _, _, rfl, _⟩ := h; rfl; done) | (obtain ⟨_, _, _, _, _, rfl, _⟩ := h; rfl; done)) | (rcases h with h | h | h <;> first | (obtain ⟨_, rfl, _⟩ := h; rfl; done) | (obtain ⟨_, _, rfl, _⟩ := h; rfl; done) | (obtain ⟨_, _, _, rfl, _⟩ := h; rfl; done) | (obtain ⟨_, _, _, _, rfl, _⟩ := h; rfl; done) | (obtain ⟨_, _, _, _, _, rfl, _⟩ := h; rfl; done)))
    (fun _ _ _ _ _ _ us hl => match us, hl with | [_, _], _ => rfl)
    fun f cdv A outer s H vs Q E hr h => ⟨t_law_mixed g, pss_cons (ps_set (i := 2) sc_law_mixed.nd rfl (.inl rfl) (pe_op op_uMod (pe_op op_uMul (pe_op op_uAdd (pe_op op_uAdd (pv 0) (pe_op op_uMul pe_int (pv 1))) pe_int) pe_int) pe_int))
    (pss_one (ps_ret (pe_op op_uMod (pe_op op_uAdd (pe_op op_uMul (pv 2) (pv 2)) (pe_op op_uMul pe_int (pv 2))) pe_int))), p_law_mixed h⟩
theorem has_law_whole (T : Txt g mg) (A : At g.K mg "_law_whole" s_law_whole)  : Has P w g.K mg base CX0 1 "_law_whole" ["_law_found", "_law_due_here"] (sp_k12_whole g) :=
  has_of A sc_law_whole (fun vs H Q E h => by first | (obtain ⟨_, rfl, _⟩ := h; rfl; done) | (obtain ⟨_, _, rfl, _⟩ := h; rfl; done) | (obtain ⟨_, _, _, rfl, _⟩ := h; rfl; done) | (obtain ⟨_, _, _, _, rfl, _⟩ := h; rfl; done) | (obtain ⟨_, _, _, _, _, rfl, _⟩ := h; rfl; done) | (rcases h with ⟨_, (⟨_, _, rfl, _⟩ | ⟨_, _, _, _, rfl, _⟩)⟩ <;> rfl; done) | (rcases h with ⟨_, (⟨_, _, _, _, rfl, _⟩ | ⟨_, _, _, _, _, rfl, _⟩)⟩ <;> rfl; done) | (rcases h with h | h <;> first | (obtain ⟨_, rfl, _⟩ := h; rfl; done) | (obtain ⟨_, _, rfl, _⟩ := h; rfl; done) | (obtain ⟨_, _, _, rfl, _⟩ := h; rfl; done) | (obtain ⟨_, _, _, _, rfl, _⟩ := h; rfl; done) | (obtain ⟨_, _, _, _, _, rfl, _⟩ := h; rfl; done)) | (rcases h with h | h | h <;> first | (obtain ⟨_, rfl, _⟩ := h; rfl; done) | (obtain ⟨_, _, rfl, _⟩ := h; rfl; done) | (obtain ⟨_, _, _, rfl, _⟩ := h; rfl; done) | (obtain ⟨_, _, _, _, rfl, _⟩ := h; rfl; done) | (obtain ⟨_, _, _, _, _, rfl, _⟩ := h; rfl; done)))
    (fun _ _ _ _ _ _ us hl => match us, hl with | [_, _], _ => rfl)
    fun f cdv A outer s H vs Q E hr h => ⟨t_k12_whole g, pss_one (ps_ret (pe_and (pe_callB call_isU (by rfl) T.nisinstance (by decide +kernel) (pa_cons (pv 0) (pa_cons (pe_bltn (v := .ty "int") (by rfl) T.nint (by decide +kernel) rfl) pa_nil))) (pe_and (pe_not (pe_callB call_isU (by rfl) T.nisinstance (by decide +kernel) (pa_cons (pv 0) (pa_cons (pe_bltn (v := .ty "bool") (by rfl) T.nbool (by decide +kernel) rfl) pa_nil)))) (pe_one (pe_cmpR (op_uEq hr.units) (pv 0) (pv 1) (nomark _)))))), p_k12_whole h⟩
theorem has_law_turnings (T : Txt g mg) (A : At g.K mg "_law_turnings" s_law_turnings)  : Has P w g.K mg base CX0 1 "_law_turnings" ["_law_word"] (sp_law_turnings g) :=
  has_of A sc_law_turnings (fun vs H Q E h => by first | (obtain ⟨_, rfl, _⟩ := h; rfl; done) | (obtain ⟨_, _, rfl, _⟩ := h; rfl; done) | (obtain ⟨_, _, _, rfl, _⟩ := h; rfl; done) | (obtain ⟨_, _, _, _, rfl, _⟩ := h; rfl; done) | (obtain ⟨_, _, _, _, _, rfl, _⟩ := h; rfl; done) | (rcases h with ⟨_, (⟨_, _, rfl, _⟩ | ⟨_, _, _, _, rfl, _⟩)⟩ <;> rfl; done) | (rcases h with ⟨_, (⟨_, _, _, _, rfl, _⟩ | ⟨_, _, _, _, _, rfl, _⟩)⟩ <;> rfl; done) | (rcases h with h | h <;> first | (obtain ⟨_, rfl, _⟩ := h; rfl; done) | (obtain ⟨_, _, rfl, _⟩ := h; rfl; done) | (obtain ⟨_, _, _, rfl, _⟩ := h; rfl; done) | (obtain ⟨_, _, _, _, rfl, _⟩ := h; rfl; done) | (obtain ⟨_, _, _, _, _, rfl, _⟩ := h; rfl; done)) | (rcases h with h | h | h <;> first | (obtain ⟨_, rfl, _⟩ := h; rfl; done) | (obtain ⟨_, _, rfl, _⟩ := h; rfl; done) | (obtain ⟨_, _, _, rfl, _⟩ := h; rfl; done) | (obtain ⟨_, _, _, _, rfl, _⟩ := h; rfl; done) | (obtain ⟨_, _, _, _, _, rfl, _⟩ := h; rfl; done)))
    (fun _ _ _ _ _ _ us hl => match us, hl with | [_], _ => rfl)
    fun f cdv A outer s H vs Q E hr h => ⟨t_law_turnings g, pss_one (ps_ret (pe_lc (own := [("_law_k", 1)]) (g := gName 1) (tt := tYes) rfl sc_law_turnings.nd (pi_range1 (by rfl) T.nrange (pa_cons (pe_callB call_len (by rfl) T.nlen (by decide +kernel) (pa_cons (pv 0) pa_nil)) pa_nil)) (blkOk_by (show blkC ["_law_word", "_law_k"] (defScope s_law_turnings) _ _ = true by decide +kernel)) (fun _ _ _ _ _ => pg_name (i := 1) sc_law_turnings.nd rfl (by first | exact .inl rfl | exact .inr rfl)) (fun _ _ _ _ _ => pts_nil) (fun _ _ _ _ _ => pe_op op_uAdd (pe_slice sl_u (pv 0) (po_some (pv 1)) po_none) (pe_slice sl_u (pv 0) po_none (po_some (pv 1)))))), p_law_turnings h⟩
theorem has_law_no_word (T : Txt g mg) (A : At g.K mg "_law_no_word" s_law_no_word)  : Has P w g.K mg base CX0 1 "_law_no_word" ["_law_mix"] (sp_law_no_word g) :=
  has_of A sc_law_no_word (fun vs H Q E h => by first | (obtain ⟨_, rfl, _⟩ := h; rfl; done) | (obtain ⟨_, _, rfl, _⟩ := h; rfl; done) | (obtain ⟨_, _, _, rfl, _⟩ := h; rfl; done) | (obtain ⟨_, _, _, _, rfl, _⟩ := h; rfl; done) | (obtain ⟨_, _, _, _, _, rfl, _⟩ := h; rfl; done) | (rcases h with ⟨_, (⟨_, _, rfl, _⟩ | ⟨_, _, _, _, rfl, _⟩)⟩ <;> rfl; done) | (rcases h with ⟨_, (⟨_, _, _, _, rfl, _⟩ | ⟨_, _, _, _, _, rfl, _⟩)⟩ <;> rfl; done) | (rcases h with h | h <;> first | (obtain ⟨_, rfl, _⟩ := h; rfl; done) | (obtain ⟨_, _, rfl, _⟩ := h; rfl; done) | (obtain ⟨_, _, _, rfl, _⟩ := h; rfl; done) | (obtain ⟨_, _, _, _, rfl, _⟩ := h; rfl; done) | (obtain ⟨_, _, _, _, _, rfl, _⟩ := h; rfl; done)) | (rcases h with h | h | h <;> first | (obtain ⟨_, rfl, _⟩ := h; rfl; done) | (obtain ⟨_, _, rfl, _⟩ := h; rfl; done) | (obtain ⟨_, _, _, rfl, _⟩ := h; rfl; done) | (obtain ⟨_, _, _, _, rfl, _⟩ := h; rfl; done) | (obtain ⟨_, _, _, _, _, rfl, _⟩ := h; rfl; done)))
    (fun _ _ _ _ _ _ us hl => match us, hl with | [_], _ => rfl)
    fun f cdv A outer s H vs Q E hr h => ⟨t_law_no_word g, pss_cons (ps_set (i := 1) sc_law_no_word.nd rfl (.inl rfl) (pe_lst (pa_cons pe_non (pa_cons (pe_strL (l := []) (by decide +kernel)) (pa_cons pe_int (pa_cons (pe_strL (l := [97, 66]) (by decide +kernel)) (pa_cons (pe_strL (l := [97, 32, 98]) (by decide +kernel)) (pa_cons (pe_strL (l := [97, 49]) (by decide +kernel)) (pa_cons (pe_lst (pa_cons (pe_strL (l := [97]) (by decide +kernel)) pa_nil)) (pa_cons (pe_tup (pa_cons (pe_strL (l := [97]) (by decide +kernel)) pa_nil)) (pa_cons (pe_op op_uMul (pe_strL (l := [97]) (by decide +kernel)) pe_int) (pa_cons pe_bl (pa_cons (pe_strL (l := [97, 98, 45]) (by decide +kernel)) (pa_cons (pe_strL (l := [65]) (by decide +kernel)) (pa_cons pe_dnewK (pa_cons (pe_strL (l := [97, 46]) (by decide +kernel)) (pa_cons pe_int (pa_cons (pe_strL (l := [10]) (by decide +kernel)) pa_nil))))))))))))))))))
    (pss_one (ps_ret (pe_ix ix_seq (pv 1) (pe_op op_uMod (pe_op op_uDiv (pv 0) pe_int) pe_int) (fun _ _ => rfl)))), p_law_no_word h⟩
theorem has_law_mark (T : Txt g mg) (A : At g.K mg "_law_mark" s_law_mark)  : Has P w g.K mg base CX0 1 "_law_mark" ["_law_e"] (sp_law_mark g) :=
  has_of A sc_law_mark (fun vs H Q E h => by first | (obtain ⟨_, rfl, _⟩ := h; rfl; done) | (obtain ⟨_, _, rfl, _⟩ := h; rfl; done) | (obtain ⟨_, _, _, rfl, _⟩ := h; rfl; done) | (obtain ⟨_, _, _, _, rfl, _⟩ := h; rfl; done) | (obtain ⟨_, _, _, _, _, rfl, _⟩ := h; rfl; done) | (rcases h with ⟨_, (⟨_, _, rfl, _⟩ | ⟨_, _, _, _, rfl, _⟩)⟩ <;> rfl; done) | (rcases h with ⟨_, (⟨_, _, _, _, rfl, _⟩ | ⟨_, _, _, _, _, rfl, _⟩)⟩ <;> rfl; done) | (rcases h with h | h <;> first | (obtain ⟨_, rfl, _⟩ := h; rfl; done) | (obtain ⟨_, _, rfl, _⟩ := h; rfl; done) | (obtain ⟨_, _, _, rfl, _⟩ := h; rfl; done) | (obtain ⟨_, _, _, _, rfl, _⟩ := h; rfl; done) | (obtain ⟨_, _, _, _, _, rfl, _⟩ := h; rfl; done)) | (rcases h with h | h | h <;> first | (obtain ⟨_, rfl, _⟩ := h; rfl; done) | (obtain ⟨_, _, rfl, _⟩ := h; rfl; done) | (obtain ⟨_, _, _, rfl, _⟩ := h; rfl; done) | (obtain ⟨_, _, _, _, rfl, _⟩ := h; rfl; done) | (obtain ⟨_, _, _, _, _, rfl, _⟩ := h; rfl; done)))
    (fun _ _ _ _ _ _ us hl => match us, hl with | [_], _ => rfl)
    fun f cdv A outer s H vs Q E hr h => ⟨t_law_mark g, pss_cons (ps_set (i := 1) sc_law_mark.nd rfl (.inl rfl) (pe_lst (pa_cons (pe_callB call_isU (by rfl) T.nisinstance (by decide +kernel) (pa_cons (pv 0) (pa_cons (pe_glob (v := .ref g.cNoWord) (by rfl) T.cNoWord rfl) pa_nil))) (pa_cons (pe_callB call_isU (by rfl) T.nisinstance (by decide +kernel) (pa_cons (pv 0) (pa_cons (pe_glob (v := .ref g.cNoSigns) (by rfl) T.cNoSigns rfl) pa_nil))) (pa_cons (pe_callB call_isU (by rfl) T.nisinstance (by decide +kernel) (pa_cons (pv 0) (pa_cons (pe_glob (v := .ref g.cNoCount) (by rfl) T.cNoCount rfl) pa_nil))) (pa_cons (pe_callB call_isU (by rfl) T.nisinstance (by decide +kernel) (pa_cons (pv 0) (pa_cons (pe_glob (v := .ref g.cTooMany) (by rfl) T.cTooMany rfl) pa_nil))) pa_nil))))))
    (pss_cons (ps_set (i := 1) sc_law_mark.nd rfl (.inl rfl) (pe_op op_uAdd (pv 1) (pe_lst (pa_cons (pe_callB call_isU (by rfl) T.nisinstance (by decide +kernel) (pa_cons (pv 0) (pa_cons (pe_glob (v := .ref g.cNoRing) (by rfl) T.cNoRing rfl) pa_nil))) (pa_cons (pe_callB call_isU (by rfl) T.nisinstance (by decide +kernel) (pa_cons (pv 0) (pa_cons (pe_glob (v := .ref g.cTwice) (by rfl) T.cTwice rfl) pa_nil))) pa_nil)))))
    (pss_cons (ps_if (PW.pt (pw_or (pt_cmpR (op_uNe hr.units) (pe_bm PySem.F.plainAttrs_list PySem.F.slot_list_count PySem.F.type_list_count mt_countB (pv 1) (pa_cons pe_bl pa_nil)) pe_int (nomark _)) (pw_or1 (pt_not (pt_val (pe_callB call_isU (by rfl) T.nisinstance (by decide +kernel) (pa_cons (pv 0) (pa_cons (pe_bltn (v := .ty "ValueError") (by rfl) T.nValueError (by decide +kernel) rfl) pa_nil)))))))) (pss_one (ps_ret (pe_strL (l := [115, 101, 118, 101, 114, 97, 108]) (by decide +kernel)))) pss_nil)
    (pss_one (ps_ret (pe_ix ix_seq (pe_lst (pa_cons (pe_strL (l := [119, 111, 114, 100]) (by decide +kernel)) (pa_cons (pe_strL (l := [115, 105, 103, 110, 115]) (by decide +kernel)) (pa_cons (pe_strL (l := [99, 111, 117, 110, 116]) (by decide +kernel)) (pa_cons (pe_strL (l := [109, 97, 110, 121]) (by decide +kernel)) (pa_cons (pe_strL (l := [114, 105, 110, 103]) (by decide +kernel)) (pa_cons (pe_strL (l := [116, 119, 105, 99, 101]) (by decide +kernel)) pa_nil))))))) (pe_bm PySem.F.plainAttrs_list PySem.F.slot_list_index PySem.F.type_list_index mt_index (pv 1) (pa_cons pe_bl pa_nil)) (fun _ _ => rfl)))))), p_law_mark h⟩
theorem has_need_word (T : Txt g mg) (A : At g.K mg "need_word" s_need_word) (h_is_word : Has P w g.K mg base CX0 1 "is_word" ["thing"] (sp_is_word g)) : Has P w g.K mg base (L2.CX P w) 2 "need_word" ["thing"] (sp_need_word g) :=
  hasX_of A sc_need_word (fun vs H Q E h => by first | (obtain ⟨_, rfl, _⟩ := h; rfl; done) | (obtain ⟨_, _, rfl, _⟩ := h; rfl; done) | (obtain ⟨_, _, _, rfl, _⟩ := h; rfl; done) | (obtain ⟨_, _, _, _, rfl, _⟩ := h; rfl; done) | (obtain ⟨_, _, _, _, _, rfl, _⟩ := h; rfl; done) | (rcases h with ⟨_, (⟨_, _, rfl, _⟩ | ⟨_, _, _, _, rfl, _⟩)⟩ <;> rfl; done) | (rcases h with ⟨_, (⟨_, _, _, _, rfl, _⟩ | ⟨_, _, _, _, _, rfl, _⟩)⟩ <;> rfl; done) | (rcases h with h | h <;> first | (obtain ⟨_, rfl, _⟩ := h; rfl; done) | (obtain ⟨_, _, rfl, _⟩ := h; rfl; done) | (obtain ⟨_, _, _, rfl, _⟩ := h; rfl; done) | (obtain ⟨_, _, _, _, rfl, _⟩ := h; rfl; done) | (obtain ⟨_, _, _, _, _, rfl, _⟩ := h; rfl; done)) | (rcases h with h | h | h <;> first | (obtain ⟨_, rfl, _⟩ := h; rfl; done) | (obtain ⟨_, _, rfl, _⟩ := h; rfl; done) | (obtain ⟨_, _, _, rfl, _⟩ := h; rfl; done) | (obtain ⟨_, _, _, _, rfl, _⟩ := h; rfl; done) | (obtain ⟨_, _, _, _, _, rfl, _⟩ := h; rfl; done)))
    (fun _ _ _ _ _ _ us hl => match us, hl with | [_], _ => rfl)
    fun f cdv A outer s H vs Q E hr h => ⟨t_need_word g E, pss_one (ps_if (pt_not (pt_val (pe_callH h_is_word hr (by rfl) pass0 (pa_cons (pv 0) pa_nil)))) (pss_one (ps_raise rfl (takes_of rfl rfl rfl rfl) (pmk_own PySem.F.excBase_ValueError T.eNoWord.x T.eNoWord.g T.eNoWord.k (raises_own T.eNoWord.b T.eNoWord.t) (by rfl)))) pss_nil), p_need_word h⟩
theorem has_law_drawn (T : Txt g mg) (A : At g.K mg "_law_drawn" s_law_drawn) (h_law_mixed : Has P w g.K mg base CX0 1 "_law_mixed" ["_law_cell", "_law_k"] (sp_law_mixed g)) : Has P w g.K mg base CX0 2 "_law_drawn" ["_law_cell", "_law_signs", "_law_many"] (sp_law_drawn g) :=
  has_of A sc_law_drawn (fun vs H Q E h => by first | (obtain ⟨_, rfl, _⟩ := h; rfl; done) | (obtain ⟨_, _, rfl, _⟩ := h; rfl; done) | (obtain ⟨_, _, _, rfl, _⟩ := h; rfl; done) | (obtain ⟨_, _, _, _, rfl, _⟩ := h; rfl; done) | (obtain ⟨_, _, _, _, _, rfl, _⟩ := h; rfl; done) | (rcases h with ⟨_, (⟨_, _, rfl, _⟩ | ⟨_, _, _, _, rfl, _⟩)⟩ <;> rfl; done) | (rcases h with ⟨_, (⟨_, _, _, _, rfl, _⟩ | ⟨_, _, _, _, _, rfl, _⟩)⟩ <;> rfl; done) | (rcases h with h | h <;> first | (obtain ⟨_, rfl, _⟩ := h; rfl; done) | (obtain ⟨_, _, rfl, _⟩ := h; rfl; done) | (obtain ⟨_, _, _, rfl, _⟩ := h; rfl; done) | (obtain ⟨_, _, _, _, rfl, _⟩ := h; rfl; done) | (obtain ⟨_, _, _, _, _, rfl, _⟩ := h; rfl; done)) | (rcases h with h | h | h <;> first | (obtain ⟨_, rfl, _⟩ := h; rfl; done) | (obtain ⟨_, _, rfl, _⟩ := h; rfl; done) | (obtain ⟨_, _, _, rfl, _⟩ := h; rfl; done) | (obtain ⟨_, _, _, _, rfl, _⟩ := h; rfl; done) | (obtain ⟨_, _, _, _, _, rfl, _⟩ := h; rfl; done)))
    (fun _ _ _ _ _ _ us hl => match us, hl with | [_, _, _], _ => rfl)
    fun f cdv A outer s H vs Q E hr h => ⟨t_law_drawn g, pss_one (ps_ret (pe_join (pe_strL (l := []) (by decide +kernel)) (pe_lc (own := [("_law_k", 3)]) (g := gName 3) (tt := tYes) rfl sc_law_drawn.nd (pi_range1 (by rfl) T.nrange (pa_cons (pv 2) pa_nil)) (blkOk_by (show blkC ["_law_cell", "_law_signs", "_law_many", "_law_k"] (defScope s_law_drawn) _ _ = true by decide +kernel)) (fun _ _ _ _ _ => pg_name (i := 3) sc_law_drawn.nd rfl (by first | exact .inl rfl | exact .inr rfl)) (fun _ _ _ _ _ => pts_nil) (fun _ _ _ _ _ => pe_ix ix_seq (pv 1) (pe_op op_uMod (pe_op op_uDiv (pe_callH h_law_mixed hr (by rfl) pass0 (pa_cons (pv 0) (pa_cons (pe_op op_uAdd pe_int (pv 3)) pa_nil))) pe_int) (pe_callB call_len (by rfl) T.nlen (by decide +kernel) (pa_cons (pv 1) pa_nil))) (fun _ _ => rfl))))), p_law_drawn h⟩
theorem has_law_ring (T : Txt g mg) (A : At g.K mg "_law_ring" s_law_ring) (h_law_turnings : Has P w g.K mg base CX0 1 "_law_turnings" ["_law_word"] (sp_law_turnings g)) : Has P w g.K mg base CX0 2 "_law_ring" ["_law_own", "_law_word"] (sp_law_ring g) :=
  has_of A sc_law_ring (fun vs H Q E h => len_law_ring h)
    (fun _ _ _ _ _ _ us hl => match us, hl with | [_, _], _ => rfl)
    fun f cdv A outer s H vs Q E hr h => have hu := hu_of hr; ⟨t_law_ring g, pss_cons (ps_for PassesOwn.never rfl (pi_u (pe_dget hu (pv 0) (pe_strL (l := [119, 111, 114, 100, 115]) (by decide +kernel)) (fun _ _ => rfl))) (pg_tup rfl (pgs_cons (pg_name (i := 2) sc_law_ring.nd rfl (.inl rfl)) (pgs_cons (pg_name (i := 3) sc_law_ring.nd rfl (.inl rfl)) pgs_nil))) (pss_one (ps_if (pt_cmpR op_uIn (pv 2) (pe_callH h_law_turnings hr (by rfl) pass0 (pa_cons (pv 1) pa_nil)) (by rfl)) (pss_one (ps_ret (pv 3))) pss_nil)))
    (pss_one (ps_ret pe_non)), p_law_ring h⟩
theorem has_least_form (T : Txt g mg) (A : At g.K mg "least_form" s_least_form) (h_from_place : Has P w g.K mg base CX0 1 "from_place" ["word", "place"] (sp_from_place g)) (h_least_place : Has P w g.K mg base CX0 1 "least_place" ["word"] (sp_least_place g)) (h_need_word : Has P w g.K mg base (L2.CX P w) 2 "need_word" ["thing"] (sp_need_word g)) : Has P w g.K mg base (L2.CX P w) 3 "least_form" ["word"] (sp_least_form g) :=
  hasX_of A sc_least_form (fun vs H Q E h => by first | (obtain ⟨_, rfl, _⟩ := h; rfl; done) | (obtain ⟨_, _, rfl, _⟩ := h; rfl; done) | (obtain ⟨_, _, _, rfl, _⟩ := h; rfl; done) | (obtain ⟨_, _, _, _, rfl, _⟩ := h; rfl; done) | (obtain ⟨_, _, _, _, _, rfl, _⟩ := h; rfl; done) | (rcases h with ⟨_, (⟨_, _, rfl, _⟩ | ⟨_, _, _, _, rfl, _⟩)⟩ <;> rfl; done) | (rcases h with ⟨_, (⟨_, _, _, _, rfl, _⟩ | ⟨_, _, _, _, _, rfl, _⟩)⟩ <;> rfl; done) | (rcases h with h | h <;> first | (obtain ⟨_, rfl, _⟩ := h; rfl; done) | (obtain ⟨_, _, rfl, _⟩ := h; rfl; done) | (obtain ⟨_, _, _, rfl, _⟩ := h; rfl; done) | (obtain ⟨_, _, _, _, rfl, _⟩ := h; rfl; done) | (obtain ⟨_, _, _, _, _, rfl, _⟩ := h; rfl; done)) | (rcases h with h | h | h <;> first | (obtain ⟨_, rfl, _⟩ := h; rfl; done) | (obtain ⟨_, _, rfl, _⟩ := h; rfl; done) | (obtain ⟨_, _, _, rfl, _⟩ := h; rfl; done) | (obtain ⟨_, _, _, _, rfl, _⟩ := h; rfl; done) | (obtain ⟨_, _, _, _, _, rfl, _⟩ := h; rfl; done)))
    (fun _ _ _ _ _ _ us hl => match us, hl with | [_], _ => rfl)
    fun f cdv A outer s H vs Q E hr h => ⟨t_least_form g E, pss_cons (ps_expr (pe_callH h_need_word hr (by rfl) (passes_call (takes_of rfl rfl rfl rfl) (fun _ _ _ _ h => h)) (pa_cons (pv 0) pa_nil)))
    (pss_one (ps_ret (pe_callH h_from_place (hr.mono (by decide)) (by rfl) pass0 (pa_cons (pv 0) (pa_cons (pe_callH h_least_place (hr.mono (by decide)) (by rfl) pass0 (pa_cons (pv 0) pa_nil)) pa_nil))))), p_least_form h⟩
theorem has_law_due (T : Txt g mg) (A : At g.K mg "_law_due" s_law_due) (h_law_ring : Has P w g.K mg base CX0 2 "_law_ring" ["_law_own", "_law_word"] (sp_law_ring g)) : Has P w g.K mg base CX0 3 "_law_due" ["_law_own", "_law_way", "_law_word"] (sp_law_due g) :=
  has_of A sc_law_due (fun vs H Q E h => len_law_due h)
    (fun _ _ _ _ _ _ us hl => match us, hl with | [_, _, _], _ => rfl)
    fun f cdv A outer s H vs Q E hr h => have hu := hu_of hr; ⟨t_law_due g, pss_cons (ps_set (i := 3) sc_law_due.nd rfl (.inr rfl) (pe_callH h_law_ring hr (by rfl) pass0 (pa_cons (pv 0) (pa_cons (pv 2) pa_nil))))
    (pss_cons (ps_set (i := 4) sc_law_due.nd rfl (.inl rfl) (pe_cmpR (op_uNe hr.units) (pe_lc (own := [("_law_one", 5)]) (g := gName 5) (tt := tTest (tOp (uEq g.K) (tOp (rIx g.K) (tVar 5) (tC (.int 0))) (tVar 2))) rfl sc_law_due.nd (pi_u (pe_dget hu (pv 0) (pe_strL (l := [119, 111, 114, 100, 115]) (by decide +kernel)) (fun _ _ => rfl))) (blkOk_by (show blkC ["_law_own", "_law_way", "_law_word", "_law_number", "_law_there", "_law_one", "_law_other"] (defScope s_law_due) _ _ = true by decide +kernel)) (fun _ _ _ _ _ => pg_name (i := 5) sc_law_due.nd rfl (by first | exact .inl rfl | exact .inr rfl)) (fun _ _ _ _ _ => pts_one (pt_cmpR (op_uEq hr.units) (pe_ix ix_seq (pv 5) pe_int (fun _ _ => rfl)) (pv 2) (nomark _))) (fun _ _ _ _ _ => pv 5)) (pe_lst pa_nil) (nomark _)))
    (pss_cons (ps_if (pt_cmpR (op_uEq hr.units) (pv 1) pe_int (nomark _)) (pss_cons (ps_if (pt_val (pv 4)) (pss_one (ps_ret (pe_strL (l := [116, 119, 105, 99, 101]) (by decide +kernel)))) pss_nil)
    (pss_cons (ps_if (pt_cmpR op_uIs (pv 3) pe_non (nomark _)) (pss_cons (ps_set (i := 3) sc_law_due.nd rfl (.inr rfl) (pe_dget hu (pv 0) (pe_strL (l := [110, 101, 120, 116]) (by decide +kernel)) (fun _ _ => rfl)))
    (pss_one (ps_dput hu (pv 0) (pe_strL (l := [110, 101, 120, 116]) (by decide +kernel)) (pe_op op_uAdd (pv 3) pe_int) rfl))) pss_nil)
    (pss_cons (ps_expr (pe_bm PySem.F.plainAttrs_list PySem.F.slot_list_append PySem.F.type_list_append mt_append (pe_dget hu (pv 0) (pe_strL (l := [119, 111, 114, 100, 115]) (by decide +kernel)) (fun _ _ => rfl)) (pa_cons (pe_tup (pa_cons (pv 2) (pa_cons (pv 3) pa_nil))) pa_nil)))
    (pss_one (ps_ret (pv 3)))))) pss_nil)
    (pss_cons (ps_if (pt_cmpR (op_uEq hr.units) (pv 1) pe_int (nomark _)) (pss_cons (ps_if (pt_not (pt_val (pv 4))) (pss_one (ps_ret (pe_strL (l := [114, 105, 110, 103]) (by decide +kernel)))) pss_nil)
    (pss_cons (ps_expr (pe_bm PySem.F.plainAttrs_list PySem.F.slot_list_remove PySem.F.type_list_remove (mt_removeD (hu65 hr)) (pe_dget hu (pv 0) (pe_strL (l := [119, 111, 114, 100, 115]) (by decide +kernel)) (fun _ _ => rfl)) (pa_cons (pe_tup (pa_cons (pv 2) (pa_cons (pv 3) pa_nil))) pa_nil)))
    (pss_one (ps_ret (pv 3))))) pss_nil)
    (pss_cons (ps_if (pt_cmpR (op_uEq hr.units) (pv 1) pe_int (nomark _)) (pss_one (ps_ret (pv 3))) pss_nil)
    (pss_one (ps_ret (pe_lc (own := [("_law_one", 5), ("_law_other", 6)]) (g := gTup g.K 2 (gCons (gName 5) (gCons (gName 6) gNil))) (tt := tAnd (tTest (tOp (uEq g.K) (tVar 6) (tVar 3))) (tAnd (tTest (tOp (uNe g.K) (tVar 5) (tVar 2))) (tTest (tOp uIsNot (tVar 3) (tC .non))))) rfl sc_law_due.nd (pi_u (pe_dget hu (pv 0) (pe_strL (l := [119, 111, 114, 100, 115]) (by decide +kernel)) (fun _ _ => rfl))) (blkOk_by (show blkC ["_law_own", "_law_way", "_law_word", "_law_number", "_law_there", "_law_one", "_law_other"] (defScope s_law_due) _ _ = true by decide +kernel)) (fun _ _ _ _ _ => pg_tup rfl (pgs_cons (pg_name (i := 5) sc_law_due.nd rfl (by first | exact .inl rfl | exact .inr rfl)) (pgs_cons (pg_name (i := 6) sc_law_due.nd rfl (by first | exact .inl rfl | exact .inr rfl)) pgs_nil))) (fun _ _ _ _ _ => pts_one (PW.pt (pw_and (pt_cmpR (op_uEq hr.units) (pv 6) (pv 3) (nomark _)) (pw_and (pt_cmpR (op_uNe hr.units) (pv 5) (pv 2) (nomark _)) (pw_and1 (pt_cmpR op_uIsNot (pv 3) pe_non (nomark _))))))) (fun _ _ _ _ _ => pv 5)))))))), p_law_due h⟩
theorem has_Rings_add (T : Txt g mg) (A : AtM g.K g.cRings "add" "Rings.add" s_Rings_add) (h_least_form : Has P w g.K mg base (L2.CX P w) 3 "least_form" ["word"] (sp_least_form g)) : HasM P w g.K mg base (L2.CX P w) 4 g.cRings "add" ["self", "word"] (sp_Rings_add g) :=
  hasMX_of A sc_Rings_add (fun vs H Q E h => len_Rings_add h)
    (fun _ _ _ _ _ _ us hl => match us, hl with | [_, _], _ => rfl)
    fun f cdv A outer s H vs Q E hr h => have hu := hu_of hr; ⟨t_Rings_add g E, pss_cons (ps_set (i := 2) sc_Rings_add.nd rfl (.inl rfl) (pe_callH h_least_form hr (by rfl) (passes_call (takes_of rfl rfl rfl rfl) (fun _ _ _ _ h => h)) (pa_cons (pv 1) pa_nil)))
    (pss_cons (ps_if (PW.pt (pw_and (pt_cmp (pc_din hu (pv 2) (pe_fld (pv 0) rfl))) (pw_and1 (pt_cmpR op_uIn (pv 1) (pe_dget hu (pe_fld (pv 0) rfl) (pe_dget hu (pe_fld (pv 0) rfl) (pv 2) (fun _ _ => rfl)) (fun _ _ => rfl)) (by rfl))))) (pss_one (ps_raise rfl (takes_of rfl rfl rfl rfl) (pmk_own PySem.F.excBase_ValueError T.eTwice.x T.eTwice.g T.eTwice.k (raises_own T.eTwice.b T.eTwice.t) (by rfl)))) pss_nil)
    (pss_cons (ps_if (pt_cmp (pc_dnotin hu (pv 2) (pe_fld (pv 0) rfl))) (pss_cons (ps_dput hu (pe_fld (pv 0) rfl) (pv 2) (pe_fld (pv 0) rfl) rfl)
    (pss_cons (ps_dput hu (pe_fld (pv 0) rfl) (pe_fld (pv 0) rfl) (pe_lst pa_nil) rfl)
    (pss_one (ps_fldaug (pv 0) pe_int in_add)))) pss_nil)
    (pss_cons (ps_set (i := 3) sc_Rings_add.nd rfl (.inl rfl) (pe_dget hu (pe_fld (pv 0) rfl) (pv 2) (fun _ _ => rfl)))
    (pss_cons (ps_expr (pe_bm PySem.F.plainAttrs_list PySem.F.slot_list_append PySem.F.type_list_append mt_append (pe_dget hu (pe_fld (pv 0) rfl) (pv 3) (fun _ _ => rfl)) (pa_cons (pv 1) pa_nil)))
    (pss_one (ps_ret (pv 3))))))), p_Rings_add h⟩
theorem has_Rings_take (T : Txt g mg) (A : AtM g.K g.cRings "take" "Rings.take" s_Rings_take) (h_least_form : Has P w g.K mg base (L2.CX P w) 3 "least_form" ["word"] (sp_least_form g)) : HasM P w g.K mg base (L2.CX P w) 4 g.cRings "take" ["self", "word"] (sp_k12_Rings_take g) :=
  hasMX_of A sc_Rings_take (fun vs H Q E h => len_k12_Rings_take h)
    (fun _ _ _ _ _ _ us hl => match us, hl with | [_, _], _ => rfl)
    fun f cdv A outer s H vs Q E hr h => have hu := hu_of hr; ⟨t_k12_Rings_take g E, pss_cons (ps_set (i := 2) sc_Rings_take.nd rfl (.inl rfl) (pe_callH h_least_form hr (by rfl) (passes_call (takes_of rfl rfl rfl rfl) (fun _ _ _ _ h => h)) (pa_cons (pv 1) pa_nil)))
    (pss_cons (ps_if (PW.pt (pw_or (pt_cmp (pc_dnotin hu (pv 2) (pe_fld (pv 0) rfl))) (pw_or1 (pt_cmpR op_uNotIn (pv 1) (pe_dget hu (pe_fld (pv 0) rfl) (pe_dget hu (pe_fld (pv 0) rfl) (pv 2) (fun _ _ => rfl)) (fun _ _ => rfl)) (by rfl))))) (pss_one (ps_raise rfl (takes_of rfl rfl rfl rfl) (pmk_own PySem.F.excBase_ValueError T.eNoRing.x T.eNoRing.g T.eNoRing.k (raises_own T.eNoRing.b T.eNoRing.t) (by rfl)))) pss_nil)
    (pss_cons (ps_set (i := 3) sc_Rings_take.nd rfl (.inl rfl) (pe_dget hu (pe_fld (pv 0) rfl) (pv 2) (fun _ _ => rfl)))
    (pss_cons (ps_expr (pe_bm PySem.F.plainAttrs_list PySem.F.slot_list_remove PySem.F.type_list_remove (mt_removeD (hu65 hr)) (pe_dget hu (pe_fld (pv 0) rfl) (pv 3) (fun _ _ => rfl)) (pa_cons (pv 1) pa_nil)))
    (pss_cons (ps_if (pt_cmpR (op_uEq hr.units) (pe_dget hu (pe_fld (pv 0) rfl) (pv 3) (fun _ _ => rfl)) (pe_lst pa_nil) (nomark _)) (pss_cons (ps_expr (pe_dpop1 (pe_fld (pv 0) rfl) (pv 3) ⟨by rfl, by rfl, by rfl, by rfl⟩))
    (pss_one (ps_expr (pe_dpop1 (pe_fld (pv 0) rfl) (pv 2) ⟨by rfl, by rfl, by rfl, by rfl⟩)))) pss_nil)
    (pss_one (ps_ret (pv 3))))))), p_k12_Rings_take h⟩
theorem has_Rings_ring_of (T : Txt g mg) (A : AtM g.K g.cRings "ring_of" "Rings.ring_of" s_Rings_ring_of) (h_least_form : Has P w g.K mg base (L2.CX P w) 3 "least_form" ["word"] (sp_least_form g)) : HasM P w g.K mg base (L2.CX P w) 4 g.cRings "ring_of" ["self", "word"] (sp_Rings_ring_of g) :=
  hasMX_of A sc_Rings_ring_of (fun vs H Q E h => len_Rings_ring_of h)
    (fun _ _ _ _ _ _ us hl => match us, hl with | [_, _], _ => rfl)
    fun f cdv A outer s H vs Q E hr h => have hu := hu_of hr; ⟨t_Rings_ring_of g E, pss_one (ps_ret (pe_dget1 hu (pe_fld (pv 0) rfl) (pe_callH h_least_form hr (by rfl) (passes_call (takes_of rfl rfl rfl rfl) (fun _ _ _ _ h => h)) (pa_cons (pv 1) pa_nil)) ⟨by rfl, by rfl, by rfl, by rfl⟩)), p_Rings_ring_of h⟩
theorem has_Rings_others (T : Txt g mg) (A : AtM g.K g.cRings "others" "Rings.others" s_Rings_others) (h_Rings_ring_of : HasM P w g.K mg base (L2.CX P w) 4 g.cRings "ring_of" ["self", "word"] (sp_Rings_ring_of g)) : HasM P w g.K mg base (L2.CX P w) 5 g.cRings "others" ["self", "word"] (sp_k12_Rings_others g) :=
  hasMX_of A sc_Rings_others (fun vs H Q E h => len_k12_Rings_others h)
    (fun _ _ _ _ _ _ us hl => match us, hl with | [_, _], _ => rfl)
    fun f cdv A outer s H vs Q E hr h => have hu := hu_of hr; ⟨t_k12_Rings_others g E, pss_cons (ps_set (i := 2) sc_Rings_others.nd rfl (.inl rfl) (pe_callM T.rc.cl h_Rings_ring_of hr (passes_call (takes_of rfl rfl rfl rfl) (fun _ _ _ _ h => h)) (pv 0) (pa_cons (pv 1) pa_nil)))
    (pss_one (ps_ret (pe_lc (own := [("one", 3)]) (g := gName 3) (tt := tTest (tOp (uNe g.K) (tVar 3) (tVar 1))) rfl sc_Rings_others.nd (pi_u (pe_dget2N hu (pe_fld (pv 0) rfl) (pv 2) (pe_lst pa_nil) ⟨by rfl, by rfl, by rfl, by rfl⟩)) (blkOk_by (show blkC ["self", "word", "number", "one"] (defScope s_Rings_others) _ _ = true by decide +kernel)) (fun _ _ _ _ _ => pg_name (i := 3) sc_Rings_others.nd rfl (by first | exact .inl rfl | exact .inr rfl)) (fun _ _ _ _ _ => pts_one (pt_cmpR (op_uNe hr.units) (pv 3) (pv 1) (nomark _))) (fun _ _ _ _ _ => pv 3)))), p_k12_Rings_others h⟩
theorem has_law_told (T : Txt g mg) (A : At g.K mg "_law_told" s_law_told) (h_Rings_add : HasM P w g.K mg base (L2.CX P w) 4 g.cRings "add" ["self", "word"] (sp_Rings_add g)) (h_Rings_members : HasM P w g.K mg base (L2.CX P w) 1 g.cRings "members" ["self", "number"] (sp_k12_Rings_members g)) (h_Rings_others : HasM P w g.K mg base (L2.CX P w) 5 g.cRings "others" ["self", "word"] (sp_k12_Rings_others g)) (h_Rings_ring_of : HasM P w g.K mg base (L2.CX P w) 4 g.cRings "ring_of" ["self", "word"] (sp_Rings_ring_of g)) (h_Rings_take : HasM P w g.K mg base (L2.CX P w) 4 g.cRings "take" ["self", "word"] (sp_k12_Rings_take g)) (h_law_mark : Has P w g.K mg base CX0 1 "_law_mark" ["_law_e"] (sp_law_mark g)) : Has P w g.K mg base CX0 6 "_law_told" ["_law_book", "_law_way", "_law_thing"] (sp_k12_told g) :=
  has_of A sc_law_told (fun vs H Q E h => len_k12_told h)
    (fun _ _ _ _ _ _ us hl => match us, hl with | [_, _, _], _ => rfl)
    fun f cdv A outer s H vs Q E hr h => ⟨t_k12_told g, pss_cons (ps_try_asE (i := 4) (tb := fun W => tIfS (tTest (tOp (uEq g.K) (tVar 1) (tC (.int 0)))) (tAsg (tMethV g.cRings "add" (sp_Rings_add g) (WE W) (tVar 0) (tCons (tVar 2) tNil)) (gName 3)) (tIfS (tTest (tOp (uEq g.K) (tVar 1) (tC (.int 1)))) (tAsg (tMethV g.cRings "take" (sp_k12_Rings_take g) (WE W) (tVar 0) (tCons (tVar 2) tNil)) (gName 3)) (tIfS (tTest (tOp (uEq g.K) (tVar 1) (tC (.int 2)))) (tAsg (tMethV g.cRings "ring_of" (sp_Rings_ring_of g) (WE W) (tVar 0) (tCons (tVar 2) tNil)) (gName 3)) (tIfS (tTest (tOp (uEq g.K) (tVar 1) (tC (.int 3)))) (tAsg (tMethV g.cRings "others" (sp_k12_Rings_others g) (WE W) (tVar 0) (tCons (tVar 2) tNil)) (gName 3)) (tAsg (tMethV g.cRings "members" (sp_k12_Rings_members g) (WE W) (tVar 0) (tCons (tVar 2) tNil)) (gName 3)))))) (ts := fun _ _ _ => tAsg (tVar 4) (gName 3)) (Wout := fun _ _ _ _ => False) pss_nil rfl rfl rfl sc_law_told.nd rfl rfl ⟨rfl, by decide, .inl T.cWordError⟩ takes0 (fun W pn xe tk _ => pss_one (ps_if (pt_cmpR (op_uEq hr.units) (pv 1) pe_int (nomark _)) (pss_one (ps_set (i := 3) sc_law_told.nd rfl (.inl rfl) (pe_callMS T.rc.cl h_Rings_add (hr.mono (by decide)) (fun σ => passAt tk σ) (pv 0) (pa_cons (pv 2) pa_nil)))) (pss_one (ps_if (pt_cmpR (op_uEq hr.units) (pv 1) pe_int (nomark _)) (pss_one (ps_set (i := 3) sc_law_told.nd rfl (.inl rfl) (pe_callMS T.rc.cl h_Rings_take (hr.mono (by decide)) (fun σ => passAt tk σ) (pv 0) (pa_cons (pv 2) pa_nil)))) (pss_one (ps_if (pt_cmpR (op_uEq hr.units) (pv 1) pe_int (nomark _)) (pss_one (ps_set (i := 3) sc_law_told.nd rfl (.inl rfl) (pe_callMS T.rc.cl h_Rings_ring_of (hr.mono (by decide)) (fun σ => passAt tk σ) (pv 0) (pa_cons (pv 2) pa_nil)))) (pss_one (ps_if (pt_cmpR (op_uEq hr.units) (pv 1) pe_int (nomark _)) (pss_one (ps_set (i := 3) sc_law_told.nd rfl (.inl rfl) (pe_callMS T.rc.cl h_Rings_others hr (fun σ => passAt tk σ) (pv 0) (pa_cons (pv 2) pa_nil)))) (pss_one (ps_set (i := 3) sc_law_told.nd rfl (.inl rfl) (pe_callMS T.rc.cl h_Rings_members (hr.mono (by decide)) (fun σ => passAt tk σ) (pv 0) (pa_cons (pv 2) pa_nil)))))))))))) (fun a oe cls d pn _ _ => pss_one (ps_set (i := 3) sc_law_told.nd rfl (.inl rfl) (pv 4))))
    (pss_cons (ps_if (pt_val (pe_callB call_isU (by rfl) T.nisinstance (by decide +kernel) (pa_cons (pv 3) (pa_cons (pe_glob (v := .ref g.cWordError) (by rfl) T.cWordError rfl) pa_nil)))) (pss_one (ps_ret (pe_callH h_law_mark (hr.mono (by decide)) (by rfl) pass0 (pa_cons (pv 3) pa_nil)))) pss_nil)
    (pss_one (ps_ret (pv 3)))), p_k12_told h⟩
theorem has_law_stands (T : Txt g mg) (A : At g.K mg "_law_stands" s_law_stands) (h_Rings_forms : HasM P w g.K mg base CX0 1 g.cRings "forms" ["self"] (sp_Rings_forms g)) (h_Rings_many : HasM P w g.K mg base CX0 1 g.cRings "many" ["self"] (sp_Rings_many g)) (h_law_told : Has P w g.K mg base CX0 6 "_law_told" ["_law_book", "_law_way", "_law_thing"] (sp_k12_told g)) (h_law_turnings : Has P w g.K mg base CX0 1 "_law_turnings" ["_law_word"] (sp_law_turnings g)) (h_law_whole : Has P w g.K mg base CX0 1 "_law_whole" ["_law_found", "_law_due_here"] (sp_k12_whole g)) : Has P w g.K mg base CX0 7 "_law_stands" ["_law_book", "_law_own"] (sp_law_stands g) :=
  has_of A sc_law_stands (fun vs H Q E h => by first | (obtain ⟨_, rfl, _⟩ := h; rfl; done) | (obtain ⟨_, _, rfl, _⟩ := h; rfl; done) | (obtain ⟨_, _, _, rfl, _⟩ := h; rfl; done) | (obtain ⟨_, _, _, _, rfl, _⟩ := h; rfl; done) | (obtain ⟨_, _, _, _, _, rfl, _⟩ := h; rfl; done) | (rcases h with ⟨_, (⟨_, _, rfl, _⟩ | ⟨_, _, _, _, rfl, _⟩)⟩ <;> rfl; done) | (rcases h with ⟨_, (⟨_, _, _, _, rfl, _⟩ | ⟨_, _, _, _, _, rfl, _⟩)⟩ <;> rfl; done) | (rcases h with h | h <;> first | (obtain ⟨_, rfl, _⟩ := h; rfl; done) | (obtain ⟨_, _, rfl, _⟩ := h; rfl; done) | (obtain ⟨_, _, _, rfl, _⟩ := h; rfl; done) | (obtain ⟨_, _, _, _, rfl, _⟩ := h; rfl; done) | (obtain ⟨_, _, _, _, _, rfl, _⟩ := h; rfl; done)) | (rcases h with h | h | h <;> first | (obtain ⟨_, rfl, _⟩ := h; rfl; done) | (obtain ⟨_, _, rfl, _⟩ := h; rfl; done) | (obtain ⟨_, _, _, rfl, _⟩ := h; rfl; done) | (obtain ⟨_, _, _, _, rfl, _⟩ := h; rfl; done) | (obtain ⟨_, _, _, _, _, rfl, _⟩ := h; rfl; done)))
    (fun _ _ _ _ _ _ us hl => match us, hl with | [_, _], _ => rfl)
    fun f cdv A outer s H vs Q E hr h => have hu := hu_of hr; ⟨t_law_stands g, pss_cons (ps_set (i := 2) sc_law_stands.nd rfl (.inl rfl) (pe_sortSet (by rfl) T.nsorted (by rfl) T.nset (pe_lc (own := [("_law_word", 8), ("_law_number", 3)]) (g := gTup g.K 2 (gCons (gName 8) (gCons (gName 3) gNil))) (tt := tYes) rfl sc_law_stands.nd (pi_u (pe_dget hu (pv 1) (pe_strL (l := [119, 111, 114, 100, 115]) (by decide +kernel)) (fun _ _ => rfl))) (blkOk_by (show blkC ["_law_book", "_law_own", "_law_numbers", "_law_number", "_law_due_here", "_law_words", "_law_found", "_law_forms", "_law_word", "_law_other"] (defScope s_law_stands) _ _ = true by decide +kernel)) (fun _ _ _ _ _ => pg_tup rfl (pgs_cons (pg_name (i := 8) sc_law_stands.nd rfl (by first | exact .inl rfl | exact .inr rfl)) (pgs_cons (pg_name (i := 3) sc_law_stands.nd rfl (by first | exact .inl rfl | exact .inr rfl)) pgs_nil))) (fun _ _ _ _ _ => pts_nil) (fun _ _ _ _ _ => pv 3))))
    (pss_cons (ps_for PassesOwn.never rfl (pi_range1 (by rfl) T.nrange (pa_cons (pe_dget hu (pv 1) (pe_strL (l := [110, 101, 120, 116]) (by decide +kernel)) (fun _ _ => rfl)) pa_nil)) (pg_name (i := 3) sc_law_stands.nd rfl (.inr rfl)) (pss_one (ps_if (PW.pt (pw_and (pt_cmpR op_uNotIn (pv 3) (pv 2) (by rfl)) (pw_and1 (pt_cmpR (op_uNe hr.units) (pe_callH h_law_told hr (by rfl) pass0 (pa_cons (pv 0) (pa_cons pe_int (pa_cons (pv 3) pa_nil)))) (pe_strL (l := [114, 105, 110, 103]) (by decide +kernel)) (nomark _))))) (pss_one (ps_ret pe_bl)) pss_nil)))
    (pss_cons (ps_set (i := 4) sc_law_stands.nd rfl (.inl rfl) (pe_lst pa_nil))
    (pss_cons (ps_for PassesOwn.never rfl (pi_u (pv 2)) (pg_name (i := 3) sc_law_stands.nd rfl (.inr rfl)) (pss_cons (ps_setLc (i := 5) (own := [("_law_word", 8), ("_law_other", 9)]) (g := gTup g.K 2 (gCons (gName 8) (gCons (gName 9) gNil))) (tt := tTest (tOp (uEq g.K) (tVar 9) (tVar 3))) rfl sc_law_stands.nd rfl rfl (sw_true rfl rfl rfl (by decide +kernel)) (pi_u (pe_dget hu (pv 1) (pe_strL (l := [119, 111, 114, 100, 115]) (by decide +kernel)) (fun _ _ => rfl))) (blkOk_by (show blkC ["_law_book", "_law_own", "_law_numbers", "_law_number", "_law_due_here", "_law_words", "_law_found", "_law_forms", "_law_word", "_law_other"] (defScope s_law_stands) _ _ = true by decide +kernel)) (fun _ _ _ _ _ => pg_tup rfl (pgs_cons (pg_name (i := 8) sc_law_stands.nd rfl (by first | exact .inl rfl | exact .inr rfl)) (pgs_cons (pg_name (i := 9) sc_law_stands.nd rfl (by first | exact .inl rfl | exact .inr rfl)) pgs_nil))) (fun _ _ _ _ _ => pts_one (pt_cmpR (op_uEq hr.units) (pv 9) (pv 3) (nomark _))) (fun _ _ _ _ _ => pv 8))
    (pss_cons (ps_expr (pe_bm PySem.F.plainAttrs_list PySem.F.slot_list_append PySem.F.type_list_append mt_append (pv 4) (pa_cons (pe_tup (pa_cons (pv 3) (pa_cons (pe_callB (cr_minU rfl hr.units) (by rfl) T.nmin (by decide +kernel) (pa_cons (pe_callH h_law_turnings (hr.mono (by decide)) (by rfl) pass0 (pa_cons (pe_ix ix_seq (pv 5) pe_int (fun _ _ => rfl)) pa_nil)) pa_nil)) pa_nil))) pa_nil)))
    (pss_cons (ps_set (i := 6) sc_law_stands.nd rfl (.inl rfl) (pe_callH h_law_told hr (by rfl) pass0 (pa_cons (pv 0) (pa_cons pe_int (pa_cons (pv 3) pa_nil)))))
    (pss_cons (ps_if (pt_cmpR (op_uNe hr.units) (pv 6) (pv 5) (nomark _)) (pss_one (ps_ret pe_bl)) pss_nil)
    (pss_one (ps_expr (pe_bm PySem.F.plainAttrs_list PySem.F.slot_list_append PySem.F.type_list_append mt_append (pv 6) (pa_cons (pe_strL (l := [97]) (by decide +kernel)) pa_nil)))))))))
    (pss_cons (ps_set (i := 7) sc_law_stands.nd rfl (.inl rfl) (pe_callM0 T.rc.cl h_Rings_forms (hr.mono (by decide)) pass0 (pv 0)))
    (pss_cons (ps_if (PW.pt (pw_or (pt_not (pt_val (pe_callB call_isU (by rfl) T.nisinstance (by decide +kernel) (pa_cons (pv 7) (pa_cons (pe_bltn (v := .ty "list") (by rfl) T.nlist (by decide +kernel) rfl) pa_nil))))) (pw_or (pt_cmpR (op_uNe hr.units) (pv 7) (pv 4) (nomark _)) (pw_or1 (pt_not (pt_val (pe_callH h_law_whole (hr.mono (by decide)) (by rfl) pass0 (pa_cons (pe_callM0 T.rc.cl h_Rings_many (hr.mono (by decide)) pass0 (pv 0)) (pa_cons (pe_callB call_len (by rfl) T.nlen (by decide +kernel) (pa_cons (pe_dget hu (pv 1) (pe_strL (l := [119, 111, 114, 100, 115]) (by decide +kernel)) (fun _ _ => rfl)) pa_nil)) pa_nil))))))))) (pss_one (ps_ret pe_bl)) pss_nil)
    (pss_cons (ps_expr (pe_bm PySem.F.plainAttrs_list PySem.F.slot_list_append PySem.F.type_list_append mt_append (pv 7) (pa_cons (pe_tup (pa_cons pe_int (pa_cons (pe_strL (l := [97]) (by decide +kernel)) pa_nil))) pa_nil)))
    (pss_one (ps_ret (pe_and (pe_cmpR (op_uEq hr.units) (pe_callH h_law_told hr (by rfl) pass0 (pa_cons (pv 0) (pa_cons pe_int (pa_cons (pe_dget hu (pv 1) (pe_strL (l := [110, 101, 120, 116]) (by decide +kernel)) (fun _ _ => rfl)) pa_nil)))) (pe_strL (l := [114, 105, 110, 103]) (by decide +kernel)) (nomark _)) (pe_one (pe_cmpR (op_uEq hr.units) (pe_callH h_law_told hr (by rfl) pass0 (pa_cons (pv 0) (pa_cons pe_int (pa_cons (pe_un un_neg pe_int) pa_nil)))) (pe_strL (l := [114, 105, 110, 103]) (by decide +kernel)) (nomark _)))))))))))), p_law_stands h⟩
theorem has_law_right (T : Txt g mg) (A : At g.K mg "_law_right" s_law_right) (h_law_drawn : Has P w g.K mg base CX0 2 "_law_drawn" ["_law_cell", "_law_signs", "_law_many"] (sp_law_drawn g)) (h_law_due : Has P w g.K mg base CX0 3 "_law_due" ["_law_own", "_law_way", "_law_word"] (sp_law_due g)) (h_law_mixed : Has P w g.K mg base CX0 1 "_law_mixed" ["_law_cell", "_law_k"] (sp_law_mixed g)) (h_law_no_word : Has P w g.K mg base CX0 1 "_law_no_word" ["_law_mix"] (sp_law_no_word g)) (h_law_told : Has P w g.K mg base CX0 6 "_law_told" ["_law_book", "_law_way", "_law_thing"] (sp_k12_told g)) (h_law_turnings : Has P w g.K mg base CX0 1 "_law_turnings" ["_law_word"] (sp_law_turnings g)) : Has P w g.K mg base CX0 7 "_law_right" ["_law_book", "_law_own", "_law_cell"] (sp_k12_right g) :=
  has_of A sc_law_right (fun vs H Q E h => by first | (obtain ⟨_, rfl, _⟩ := h; rfl; done) | (obtain ⟨_, _, rfl, _⟩ := h; rfl; done) | (obtain ⟨_, _, _, rfl, _⟩ := h; rfl; done) | (obtain ⟨_, _, _, _, rfl, _⟩ := h; rfl; done) | (obtain ⟨_, _, _, _, _, rfl, _⟩ := h; rfl; done) | (rcases h with ⟨_, (⟨_, _, rfl, _⟩ | ⟨_, _, _, _, rfl, _⟩)⟩ <;> rfl; done) | (rcases h with ⟨_, (⟨_, _, _, _, rfl, _⟩ | ⟨_, _, _, _, _, rfl, _⟩)⟩ <;> rfl; done) | (rcases h with h | h <;> first | (obtain ⟨_, rfl, _⟩ := h; rfl; done) | (obtain ⟨_, _, rfl, _⟩ := h; rfl; done) | (obtain ⟨_, _, _, rfl, _⟩ := h; rfl; done) | (obtain ⟨_, _, _, _, rfl, _⟩ := h; rfl; done) | (obtain ⟨_, _, _, _, _, rfl, _⟩ := h; rfl; done)) | (rcases h with h | h | h <;> first | (obtain ⟨_, rfl, _⟩ := h; rfl; done) | (obtain ⟨_, _, rfl, _⟩ := h; rfl; done) | (obtain ⟨_, _, _, rfl, _⟩ := h; rfl; done) | (obtain ⟨_, _, _, _, rfl, _⟩ := h; rfl; done) | (obtain ⟨_, _, _, _, _, rfl, _⟩ := h; rfl; done)))
    (fun _ _ _ _ _ _ us hl => match us, hl with | [_, _, _], _ => rfl)
    fun f cdv A outer s H vs Q E hr h => have hu := hu_of hr; ⟨t_k12_right g, pss_cons (ps_set (i := 3) sc_law_right.nd rfl (.inl rfl) (pe_callH h_law_drawn (hr.mono (by decide)) (by rfl) pass0 (pa_cons (pv 2) (pa_cons (pe_ix ix_seq (pe_lst (pa_cons (pe_strL (l := [97, 98]) (by decide +kernel)) (pa_cons (pe_strL (l := [97, 98]) (by decide +kernel)) (pa_cons (pe_strL (l := [97, 98, 99]) (by decide +kernel)) pa_nil)))) (pe_op op_uMod (pe_op op_uDiv (pe_callH h_law_mixed (hr.mono (by decide)) (by rfl) pass0 (pa_cons (pv 2) (pa_cons pe_int pa_nil))) pe_int) pe_int) (fun _ _ => rfl)) (pa_cons (pe_op op_uAdd pe_int (pe_op op_uMod (pe_op op_uDiv (pe_callH h_law_mixed (hr.mono (by decide)) (by rfl) pass0 (pa_cons (pv 2) (pa_cons pe_int pa_nil))) pe_int) pe_int)) pa_nil)))))
    (pss_cons (ps_if (PW.pt (pw_and (pt_cmpR (op_uNe hr.units) (pe_dget hu (pv 1) (pe_strL (l := [119, 111, 114, 100, 115]) (by decide +kernel)) (fun _ _ => rfl)) (pe_lst pa_nil) (nomark _)) (pw_and1 (pt_cmpR (op_uEq hr.units) (pe_op op_uMod (pe_op op_uDiv (pe_callH h_law_mixed (hr.mono (by decide)) (by rfl) pass0 (pa_cons (pv 2) (pa_cons pe_int pa_nil))) pe_int) pe_int) pe_int (nomark _))))) (pss_cons (ps_set (i := 4) sc_law_right.nd rfl (.inl rfl) (pe_ix ix_seq (pe_ix ix_seq (pe_dget hu (pv 1) (pe_strL (l := [119, 111, 114, 100, 115]) (by decide +kernel)) (fun _ _ => rfl)) (pe_op op_uMod (pe_op op_uDiv (pe_callH h_law_mixed (hr.mono (by decide)) (by rfl) pass0 (pa_cons (pv 2) (pa_cons pe_int pa_nil))) pe_int) (pe_callB call_len (by rfl) T.nlen (by decide +kernel) (pa_cons (pe_dget hu (pv 1) (pe_strL (l := [119, 111, 114, 100, 115]) (by decide +kernel)) (fun _ _ => rfl)) pa_nil))) (fun _ _ => rfl)) pe_int (fun _ _ => rfl)))
    (pss_one (ps_set (i := 3) sc_law_right.nd rfl (.inl rfl) (pe_ix ix_seq (pe_callH h_law_turnings (hr.mono (by decide)) (by rfl) pass0 (pa_cons (pv 4) pa_nil)) (pe_op op_uMod (pe_op op_uDiv (pe_callH h_law_mixed (hr.mono (by decide)) (by rfl) pass0 (pa_cons (pv 2) (pa_cons pe_int pa_nil))) pe_int) (pe_callB call_len (by rfl) T.nlen (by decide +kernel) (pa_cons (pv 4) pa_nil))) (fun _ _ => rfl))))) pss_nil)
    (pss_cons (ps_set (i := 5) sc_law_right.nd rfl (.inl rfl) (pe_ix ix_seq (pe_lst (pa_cons pe_int (pa_cons pe_int (pa_cons pe_int (pa_cons pe_int (pa_cons pe_int (pa_cons pe_int (pa_cons pe_int pa_nil)))))))) (pe_op op_uMod (pe_op op_uDiv (pe_callH h_law_mixed (hr.mono (by decide)) (by rfl) pass0 (pa_cons (pv 2) (pa_cons pe_int pa_nil))) pe_int) pe_int) (fun _ _ => rfl)))
    (pss_cons (ps_set (i := 6) sc_law_right.nd rfl (.inl rfl) (pe_callH h_law_told hr (by rfl) pass0 (pa_cons (pv 0) (pa_cons (pv 5) (pa_cons (pv 3) pa_nil)))))
    (pss_cons (ps_set (i := 7) sc_law_right.nd rfl (.inl rfl) (pe_callH h_law_due (hr.mono (by decide)) (by rfl) pass0 (pa_cons (pv 1) (pa_cons (pv 5) (pa_cons (pv 3) pa_nil)))))
    (pss_cons (ps_if (PW.pt (pw_or (pt_cmpR (op_uNe hr.units) (pv 6) (pv 7) (nomark _)) (pw_or1 (pt_val (pe_callB call_isU (by rfl) T.nisinstance (by decide +kernel) (pa_cons (pv 6) (pa_cons (pe_bltn (v := .ty "bool") (by rfl) T.nbool (by decide +kernel) rfl) pa_nil))))))) (pss_one (ps_ret pe_bl)) pss_nil)
    (pss_cons (ps_if (pt_val (pe_callB call_isU (by rfl) T.nisinstance (by decide +kernel) (pa_cons (pv 6) (pa_cons (pe_bltn (v := .ty "list") (by rfl) T.nlist (by decide +kernel) rfl) pa_nil)))) (pss_one (ps_expr (pe_bm PySem.F.plainAttrs_list PySem.F.slot_list_append PySem.F.type_list_append mt_append (pv 6) (pa_cons (pe_strL (l := [97]) (by decide +kernel)) pa_nil)))) pss_nil)
    (pss_one (ps_ret (pe_cmpR (op_uEq hr.units) (pe_callH h_law_told hr (by rfl) pass0 (pa_cons (pv 0) (pa_cons (pe_op op_uMod (pe_op op_uDiv (pe_callH h_law_mixed (hr.mono (by decide)) (by rfl) pass0 (pa_cons (pv 2) (pa_cons pe_int pa_nil))) pe_int) pe_int) (pa_cons (pe_callH h_law_no_word (hr.mono (by decide)) (by rfl) pass0 (pa_cons (pe_callH h_law_mixed (hr.mono (by decide)) (by rfl) pass0 (pa_cons (pv 2) (pa_cons pe_int pa_nil))) pa_nil)) pa_nil)))) (pe_strL (l := [119, 111, 114, 100]) (by decide +kernel)) (nomark _)))))))))), p_k12_right h⟩
theorem ok_law {f : Addr} {fd : FuncData} (T : Txt g mg) (F : Fun g.K "law" "law" s_law f fd) (h_Rings___init__ : HasI P w g.K mg base 1 g.cRings (sp_Rings___init__ g)) (h_law_mixed : Has P w g.K mg base CX0 1 "_law_mixed" ["_law_cell", "_law_k"] (sp_law_mixed g)) (h_law_right : Has P w g.K mg base CX0 7 "_law_right" ["_law_book", "_law_own", "_law_cell"] (sp_k12_right g)) (h_law_stands : Has P w g.K mg base CX0 7 "_law_stands" ["_law_book", "_law_own"] (sp_law_stands g))
    (cv : ∀ vs H Q E, sp_top g.K vs H Q E → sp_k12_law g vs H Q E) : FnOk P w g.K mg base CX0 8 f fd ["_law_script"] (sp_top g.K) :=
  F.ok sc_law (fun vs H Q E h => by obtain ⟨_, _, rfl, _⟩ := h; rfl) fun cdv A outer s H vs Q E hr h => ⟨t_k12_law g, pss_cons (ps_set (i := 1) sc_law.nd rfl (.inl rfl) (pe_lst (pa_cons (pe_makeI h_Rings___init__ (hr.mono (by decide)) (by rfl) T.cRings) (pa_cons (pe_makeI h_Rings___init__ (hr.mono (by decide)) (by rfl) T.cRings) pa_nil))))
    (pss_cons (ps_set (i := 2) sc_law.nd rfl (.inl rfl) (pe_lst (pa_cons (pe_disp (pps_cons (pe_strL (l := [119, 111, 114, 100, 115]) (by decide +kernel)) (pe_lst pa_nil) (pps_cons (pe_strL (l := [110, 101, 120, 116]) (by decide +kernel)) pe_int pps_nil)) (by rfl) (by rfl) (fun z => by cases z) (by decide)) (pa_cons (pe_disp (pps_cons (pe_strL (l := [119, 111, 114, 100, 115]) (by decide +kernel)) (pe_lst pa_nil) (pps_cons (pe_strL (l := [110, 101, 120, 116]) (by decide +kernel)) pe_int pps_nil)) (by rfl) (by rfl) (fun z => by cases z) (by decide)) pa_nil))))
    (pss_cons (ps_for PassesOwn.never rfl (pi_enum (by rfl) T.nenumerate (pa_cons (pe_slice sl_u (pe_op op_uAdd (pe_lst (pa_cons pe_int pa_nil)) (pe_callTy (call_listU rfl) (by rfl) T.nlist (by decide +kernel) (pa_cons (pv 0) pa_nil))) po_none (po_some pe_int)) pa_nil)) (pg_tup rfl (pgs_cons (pg_name (i := 3) sc_law.nd rfl (.inl rfl)) (pgs_cons (pg_name (i := 4) sc_law.nd rfl (.inl rfl)) pgs_nil))) (pss_cons (ps_set (i := 5) sc_law.nd rfl (.inl rfl) (pe_callH h_law_mixed (hr.mono (by decide)) (by rfl) pass0 (pa_cons (pv 4) (pa_cons (pe_op op_uAdd pe_int (pv 3)) pa_nil))))
    (pss_cons (ps_set (i := 6) sc_law.nd rfl (.inl rfl) (pe_op op_uDiv (pe_op op_uMod (pe_op op_uDiv (pe_callH h_law_mixed (hr.mono (by decide)) (by rfl) pass0 (pa_cons (pv 5) (pa_cons pe_int pa_nil))) pe_int) pe_int) pe_int))
    (pss_cons (ps_if (pt_not (pt_val (pe_callH h_law_right hr (by rfl) pass0 (pa_cons (pe_ix ix_seq (pv 1) (pv 6) (fun _ _ => rfl)) (pa_cons (pe_ix ix_seq (pv 2) (pv 6) (fun _ _ => rfl)) (pa_cons (pv 5) pa_nil)))))) (pss_one (ps_ret pe_bl)) pss_nil)
    (pss_one (ps_if (PW.pt (pw_or (pt_not (pt_val (pe_callH h_law_stands hr (by rfl) pass0 (pa_cons (pe_ix ix_seq (pv 1) pe_int (fun _ _ => rfl)) (pa_cons (pe_ix ix_seq (pv 2) pe_int (fun _ _ => rfl)) pa_nil))))) (pw_or1 (pt_not (pt_val (pe_callH h_law_stands hr (by rfl) pass0 (pa_cons (pe_ix ix_seq (pv 1) pe_int (fun _ _ => rfl)) (pa_cons (pe_ix ix_seq (pv 2) pe_int (fun _ _ => rfl)) pa_nil)))))))) (pss_one (ps_ret pe_bl)) pss_nil))))))
    (pss_one (ps_ret pe_bl)))), p_k12_law (cv _ _ _ _ h)⟩
end
theorem all_mk {l : PySem.W.OpenLaw} {w : World} {K : PySem.W.Frag} {h : Heap} {mg : Str → Option Value} {fa f1 f2 f3 f4 f5 f6 f7 f8 f9 f10 f11 f12 f13 f14 f15 f16 f17 f18 f19 f20 f21 f22 f23 f24 f25 CWordError CNoWord CNoSigns CNoCount CTooMany CNoRing CTwice CRings : Addr} (X : K.In h) (G0 : h.Ns mainGlobals mg) (hfa : mg "law" = some (.ref fa))
    {od1 an1 od2 an2 od3 an3 od4 an4 od5 an5 od6 an6 od7 an7 od8 an8 od9 an9 od10 an10 od11 an11 od12 an12 od13 an13 od14 an14 od15 an15 od16 an16 od17 an17 od18 an18 od19 an19 od20 an20 od21 an21 od22 an22 od23 an23 od24 an24 od25 an25 : Option Addr} {sl1 sl2 sl3 sl4 sl5 sl6 sl7 sl8 sl9 sl10 sl11 sl12 sl13 sl14 sl15 sl16 sl17 sl18 sl19 sl20 sl21 sl22 sl23 sl24 sl25 : Array (Option Value)} {oc1 kV1 dc1 pm1 cd1 ct1 oc2 kV2 dc2 pm2 cd2 ct2 oc3 kV3 dc3 pm3 cd3 ct3 oc4 kV4 dc4 pm4 cd4 ct4 oc5 kV5 dc5 pm5 cd5 ct5 oc6 kV6 dc6 pm6 cd6 ct6 oc7 kV7 dc7 pm7 cd7 ct7 oc8 kV8 dc8 pm8 cd8 ct8 oc9 kV9 dc9 pm9 cd9 ct9 oc10 kV10 dc10 pm10 cd10 ct10 oc11 kV11 dc11 pm11 cd11 ct11 oc12 kV12 dc12 pm12 cd12 ct12 oc13 kV13 dc13 pm13 cd13 ct13 oc14 kV14 dc14 pm14 cd14 ct14 oc15 kV15 dc15 pm15 cd15 ct15 oc16 kV16 dc16 pm16 cd16 ct16 oc17 kV17 dc17 pm17 cd17 ct17 oc18 kV18 dc18 pm18 cd18 ct18 oc19 kV19 dc19 pm19 cd19 ct19 oc20 kV20 dc20 pm20 cd20 ct20 oc21 kV21 dc21 pm21 cd21 ct21 oc22 kV22 dc22 pm22 cd22 ct22 oc23 kV23 dc23 pm23 cd23 ct23 oc24 kV24 dc24 pm24 cd24 ct24 oc25 kV25 dc25 pm25 cd25 ct25 : Value}
    {tLETTERS tLONGEST : Tok}
    (a1 : PySem.W.nsIn K mainGlobals "is_word" = some (some (.ref f1))) (l1 : K.lookup f1 = some ⟨oc1, od1, .func (PySem.W.fnOf "is_word" "is_word" (defArgs s_is_word) (defBody s_is_word) (defScope s_is_word) .none kV1 dc1 pm1 an1 cd1 ct1), sl1⟩) (c1 : PySem.W.codeIn K cd1 "is_word" = true) (k1 : PySem.W.keepIn K (.ref f1) = true)
    (a2 : PySem.W.nsIn K mainGlobals "from_place" = some (some (.ref f2))) (l2 : K.lookup f2 = some ⟨oc2, od2, .func (PySem.W.fnOf "from_place" "from_place" (defArgs s_from_place) (defBody s_from_place) (defScope s_from_place) .none kV2 dc2 pm2 an2 cd2 ct2), sl2⟩) (c2 : PySem.W.codeIn K cd2 "from_place" = true) (k2 : PySem.W.keepIn K (.ref f2) = true)
    (a3 : PySem.W.nsIn K mainGlobals "least_place" = some (some (.ref f3))) (l3 : K.lookup f3 = some ⟨oc3, od3, .func (PySem.W.fnOf "least_place" "least_place" (defArgs s_least_place) (defBody s_least_place) (defScope s_least_place) .none kV3 dc3 pm3 an3 cd3 ct3), sl3⟩) (c3 : PySem.W.codeIn K cd3 "least_place" = true) (k3 : PySem.W.keepIn K (.ref f3) = true)
    (a4 : PySem.W.findIn K (.ref CRings) "__init__" = some (some (.ref f4))) (i4 : PySem.W.isFn K (.ref f4) = true) (l4 : K.lookup f4 = some ⟨oc4, od4, .func (PySem.W.fnOf "__init__" "Rings.__init__" (defArgs s_Rings___init__) (defBody s_Rings___init__) (defScope s_Rings___init__) .none kV4 dc4 pm4 an4 cd4 ct4), sl4⟩) (c4 : PySem.W.codeIn K cd4 "Rings.__init__" = true) (k4 : PySem.W.keepIn K (.ref f4) = true)
    (a5 : PySem.W.findIn K (.ref CRings) "members" = some (some (.ref f5))) (i5 : PySem.W.isFn K (.ref f5) = true) (l5 : K.lookup f5 = some ⟨oc5, od5, .func (PySem.W.fnOf "members" "Rings.members" (defArgs s_Rings_members) (defBody s_Rings_members) (defScope s_Rings_members) .none kV5 dc5 pm5 an5 cd5 ct5), sl5⟩) (c5 : PySem.W.codeIn K cd5 "Rings.members" = true) (k5 : PySem.W.keepIn K (.ref f5) = true)
    (a6 : PySem.W.findIn K (.ref CRings) "forms" = some (some (.ref f6))) (i6 : PySem.W.isFn K (.ref f6) = true) (l6 : K.lookup f6 = some ⟨oc6, od6, .func (PySem.W.fnOf "forms" "Rings.forms" (defArgs s_Rings_forms) (defBody s_Rings_forms) (defScope s_Rings_forms) .none kV6 dc6 pm6 an6 cd6 ct6), sl6⟩) (c6 : PySem.W.codeIn K cd6 "Rings.forms" = true) (k6 : PySem.W.keepIn K (.ref f6) = true)
    (a7 : PySem.W.findIn K (.ref CRings) "many" = some (some (.ref f7))) (i7 : PySem.W.isFn K (.ref f7) = true) (l7 : K.lookup f7 = some ⟨oc7, od7, .func (PySem.W.fnOf "many" "Rings.many" (defArgs s_Rings_many) (defBody s_Rings_many) (defScope s_Rings_many) .none kV7 dc7 pm7 an7 cd7 ct7), sl7⟩) (c7 : PySem.W.codeIn K cd7 "Rings.many" = true) (k7 : PySem.W.keepIn K (.ref f7) = true)
    (a8 : PySem.W.nsIn K mainGlobals "_law_mixed" = some (some (.ref f8))) (l8 : K.lookup f8 = some ⟨oc8, od8, .func (PySem.W.fnOf "_law_mixed" "_law_mixed" (defArgs s_law_mixed) (defBody s_law_mixed) (defScope s_law_mixed) .none kV8 dc8 pm8 an8 cd8 ct8), sl8⟩) (c8 : PySem.W.codeIn K cd8 "_law_mixed" = true) (k8 : PySem.W.keepIn K (.ref f8) = true)
    (a9 : PySem.W.nsIn K mainGlobals "_law_whole" = some (some (.ref f9))) (l9 : K.lookup f9 = some ⟨oc9, od9, .func (PySem.W.fnOf "_law_whole" "_law_whole" (defArgs s_law_whole) (defBody s_law_whole) (defScope s_law_whole) .none kV9 dc9 pm9 an9 cd9 ct9), sl9⟩) (c9 : PySem.W.codeIn K cd9 "_law_whole" = true) (k9 : PySem.W.keepIn K (.ref f9) = true)
    (a10 : PySem.W.nsIn K mainGlobals "_law_turnings" = some (some (.ref f10))) (l10 : K.lookup f10 = some ⟨oc10, od10, .func (PySem.W.fnOf "_law_turnings" "_law_turnings" (defArgs s_law_turnings) (defBody s_law_turnings) (defScope s_law_turnings) .none kV10 dc10 pm10 an10 cd10 ct10), sl10⟩) (c10 : PySem.W.codeIn K cd10 "_law_turnings" = true) (k10 : PySem.W.keepIn K (.ref f10) = true)
    (a11 : PySem.W.nsIn K mainGlobals "_law_no_word" = some (some (.ref f11))) (l11 : K.lookup f11 = some ⟨oc11, od11, .func (PySem.W.fnOf "_law_no_word" "_law_no_word" (defArgs s_law_no_word) (defBody s_law_no_word) (defScope s_law_no_word) .none kV11 dc11 pm11 an11 cd11 ct11), sl11⟩) (c11 : PySem.W.codeIn K cd11 "_law_no_word" = true) (k11 : PySem.W.keepIn K (.ref f11) = true)
    (a12 : PySem.W.nsIn K mainGlobals "_law_mark" = some (some (.ref f12))) (l12 : K.lookup f12 = some ⟨oc12, od12, .func (PySem.W.fnOf "_law_mark" "_law_mark" (defArgs s_law_mark) (defBody s_law_mark) (defScope s_law_mark) .none kV12 dc12 pm12 an12 cd12 ct12), sl12⟩) (c12 : PySem.W.codeIn K cd12 "_law_mark" = true) (k12 : PySem.W.keepIn K (.ref f12) = true)
    (a13 : PySem.W.nsIn K mainGlobals "need_word" = some (some (.ref f13))) (l13 : K.lookup f13 = some ⟨oc13, od13, .func (PySem.W.fnOf "need_word" "need_word" (defArgs s_need_word) (defBody s_need_word) (defScope s_need_word) .none kV13 dc13 pm13 an13 cd13 ct13), sl13⟩) (c13 : PySem.W.codeIn K cd13 "need_word" = true) (k13 : PySem.W.keepIn K (.ref f13) = true)
    (a14 : PySem.W.nsIn K mainGlobals "_law_drawn" = some (some (.ref f14))) (l14 : K.lookup f14 = some ⟨oc14, od14, .func (PySem.W.fnOf "_law_drawn" "_law_drawn" (defArgs s_law_drawn) (defBody s_law_drawn) (defScope s_law_drawn) .none kV14 dc14 pm14 an14 cd14 ct14), sl14⟩) (c14 : PySem.W.codeIn K cd14 "_law_drawn" = true) (k14 : PySem.W.keepIn K (.ref f14) = true)
    (a15 : PySem.W.nsIn K mainGlobals "_law_ring" = some (some (.ref f15))) (l15 : K.lookup f15 = some ⟨oc15, od15, .func (PySem.W.fnOf "_law_ring" "_law_ring" (defArgs s_law_ring) (defBody s_law_ring) (defScope s_law_ring) .none kV15 dc15 pm15 an15 cd15 ct15), sl15⟩) (c15 : PySem.W.codeIn K cd15 "_law_ring" = true) (k15 : PySem.W.keepIn K (.ref f15) = true)
    (a16 : PySem.W.nsIn K mainGlobals "least_form" = some (some (.ref f16))) (l16 : K.lookup f16 = some ⟨oc16, od16, .func (PySem.W.fnOf "least_form" "least_form" (defArgs s_least_form) (defBody s_least_form) (defScope s_least_form) .none kV16 dc16 pm16 an16 cd16 ct16), sl16⟩) (c16 : PySem.W.codeIn K cd16 "least_form" = true) (k16 : PySem.W.keepIn K (.ref f16) = true)
    (a17 : PySem.W.nsIn K mainGlobals "_law_due" = some (some (.ref f17))) (l17 : K.lookup f17 = some ⟨oc17, od17, .func (PySem.W.fnOf "_law_due" "_law_due" (defArgs s_law_due) (defBody s_law_due) (defScope s_law_due) .none kV17 dc17 pm17 an17 cd17 ct17), sl17⟩) (c17 : PySem.W.codeIn K cd17 "_law_due" = true) (k17 : PySem.W.keepIn K (.ref f17) = true)
    (a18 : PySem.W.findIn K (.ref CRings) "add" = some (some (.ref f18))) (i18 : PySem.W.isFn K (.ref f18) = true) (l18 : K.lookup f18 = some ⟨oc18, od18, .func (PySem.W.fnOf "add" "Rings.add" (defArgs s_Rings_add) (defBody s_Rings_add) (defScope s_Rings_add) .none kV18 dc18 pm18 an18 cd18 ct18), sl18⟩) (c18 : PySem.W.codeIn K cd18 "Rings.add" = true) (k18 : PySem.W.keepIn K (.ref f18) = true)
    (a19 : PySem.W.findIn K (.ref CRings) "take" = some (some (.ref f19))) (i19 : PySem.W.isFn K (.ref f19) = true) (l19 : K.lookup f19 = some ⟨oc19, od19, .func (PySem.W.fnOf "take" "Rings.take" (defArgs s_Rings_take) (defBody s_Rings_take) (defScope s_Rings_take) .none kV19 dc19 pm19 an19 cd19 ct19), sl19⟩) (c19 : PySem.W.codeIn K cd19 "Rings.take" = true) (k19 : PySem.W.keepIn K (.ref f19) = true)
    (a20 : PySem.W.findIn K (.ref CRings) "ring_of" = some (some (.ref f20))) (i20 : PySem.W.isFn K (.ref f20) = true) (l20 : K.lookup f20 = some ⟨oc20, od20, .func (PySem.W.fnOf "ring_of" "Rings.ring_of" (defArgs s_Rings_ring_of) (defBody s_Rings_ring_of) (defScope s_Rings_ring_of) .none kV20 dc20 pm20 an20 cd20 ct20), sl20⟩) (c20 : PySem.W.codeIn K cd20 "Rings.ring_of" = true) (k20 : PySem.W.keepIn K (.ref f20) = true)
    (a21 : PySem.W.findIn K (.ref CRings) "others" = some (some (.ref f21))) (i21 : PySem.W.isFn K (.ref f21) = true) (l21 : K.lookup f21 = some ⟨oc21, od21, .func (PySem.W.fnOf "others" "Rings.others" (defArgs s_Rings_others) (defBody s_Rings_others) (defScope s_Rings_others) .none kV21 dc21 pm21 an21 cd21 ct21), sl21⟩) (c21 : PySem.W.codeIn K cd21 "Rings.others" = true) (k21 : PySem.W.keepIn K (.ref f21) = true)
    (a22 : PySem.W.nsIn K mainGlobals "_law_told" = some (some (.ref f22))) (l22 : K.lookup f22 = some ⟨oc22, od22, .func (PySem.W.fnOf "_law_told" "_law_told" (defArgs s_law_told) (defBody s_law_told) (defScope s_law_told) .none kV22 dc22 pm22 an22 cd22 ct22), sl22⟩) (c22 : PySem.W.codeIn K cd22 "_law_told" = true) (k22 : PySem.W.keepIn K (.ref f22) = true)
    (a23 : PySem.W.nsIn K mainGlobals "_law_stands" = some (some (.ref f23))) (l23 : K.lookup f23 = some ⟨oc23, od23, .func (PySem.W.fnOf "_law_stands" "_law_stands" (defArgs s_law_stands) (defBody s_law_stands) (defScope s_law_stands) .none kV23 dc23 pm23 an23 cd23 ct23), sl23⟩) (c23 : PySem.W.codeIn K cd23 "_law_stands" = true) (k23 : PySem.W.keepIn K (.ref f23) = true)
    (a24 : PySem.W.nsIn K mainGlobals "_law_right" = some (some (.ref f24))) (l24 : K.lookup f24 = some ⟨oc24, od24, .func (PySem.W.fnOf "_law_right" "_law_right" (defArgs s_law_right) (defBody s_law_right) (defScope s_law_right) .none kV24 dc24 pm24 an24 cd24 ct24), sl24⟩) (c24 : PySem.W.codeIn K cd24 "_law_right" = true) (k24 : PySem.W.keepIn K (.ref f24) = true)
    (a25 : PySem.W.nsIn K mainGlobals "law" = some (some (.ref f25))) (l25 : K.lookup f25 = some ⟨oc25, od25, .func (PySem.W.fnOf "law" "law" (defArgs s_law) (defBody s_law) (defScope s_law) .none kV25 dc25 pm25 an25 cd25 ct25), sl25⟩) (c25 : PySem.W.codeIn K cd25 "law" = true) (k25 : PySem.W.keepIn K (.ref f25) = true)
    (bWordError : PySem.W.nsIn K mainGlobals "WordError" = some (some (.ref CWordError)))
    (bNoWord : PySem.W.nsIn K mainGlobals "NoWord" = some (some (.ref CNoWord)))
    (bNoSigns : PySem.W.nsIn K mainGlobals "NoSigns" = some (some (.ref CNoSigns)))
    (bNoCount : PySem.W.nsIn K mainGlobals "NoCount" = some (some (.ref CNoCount)))
    (bTooMany : PySem.W.nsIn K mainGlobals "TooMany" = some (some (.ref CTooMany)))
    (bNoRing : PySem.W.nsIn K mainGlobals "NoRing" = some (some (.ref CNoRing)))
    (bTwice : PySem.W.nsIn K mainGlobals "Twice" = some (some (.ref CTwice)))
    (bRings : PySem.W.nsIn K mainGlobals "Rings" = some (some (.ref CRings)))
    (pgR : PySem.W.plainGet K CRings Str.empty = true) (hdR : PySem.W.hasDictIn K CRings = true) (poR : PySem.W.plainOver K CRings = true) (saR : PySem.W.findIn K (.ref CRings) "__setattr__" = some (some (.builtin "object.__setattr__"))) (mkR : PySem.W.makesIn K CRings = true) (kcR : PySem.W.keepIn K (.ref CRings) = true)
    (nNumR : PySem.W.findIn K (.ref CRings) "numbers" = some none) (nWorR : PySem.W.findIn K (.ref CRings) "words" = some none) (nNexR : PySem.W.findIn K (.ref CRings) "next_number" = some none)
    (gLETTERS : PySem.W.nsIn K mainGlobals "LETTERS" = some (some (.str ("abcdefghijklmnopqrstuvwxyz" : Str) tLETTERS)))
    (gLONGEST : PySem.W.nsIn K mainGlobals "LONGEST" = some (some (.int 300 tLONGEST)))
    (zValueError : PySem.W.nsIn K mainGlobals "ValueError" = some none)
    (zall : PySem.W.nsIn K mainGlobals "all" = some none)
    (zbool : PySem.W.nsIn K mainGlobals "bool" = some none)
    (zenumerate : PySem.W.nsIn K mainGlobals "enumerate" = some none)
    (zint : PySem.W.nsIn K mainGlobals "int" = some none)
    (zisinstance : PySem.W.nsIn K mainGlobals "isinstance" = some none)
    (zlen : PySem.W.nsIn K mainGlobals "len" = some none)
    (zlist : PySem.W.nsIn K mainGlobals "list" = some none)
    (zmin : PySem.W.nsIn K mainGlobals "min" = some none)
    (zrange : PySem.W.nsIn K mainGlobals "range" = some none)
    (zset : PySem.W.nsIn K mainGlobals "set" = some none)
    (zsorted : PySem.W.nsIn K mainGlobals "sorted" = some none)
    (zstr : PySem.W.nsIn K mainGlobals "str" = some none)
    (zsum : PySem.W.nsIn K mainGlobals "sum" = some none)
    (xNoRing : PySem.W.excIn K CNoRing [.type "ValueError", .type "Exception", .type "BaseException", .type "object"] "ValueError.__new__" = true) (xkNoRing : PySem.W.keepIn K (.ref CNoRing) = true) (xbNoRing : PySem.W.subIn K (.ref CNoRing) (.type "BaseException") = some true) (xtNoRing : PySem.W.typeIn K (.ref CNoRing) = some (.type "type"))
    (xNoWord : PySem.W.excIn K CNoWord [.type "ValueError", .type "Exception", .type "BaseException", .type "object"] "ValueError.__new__" = true) (xkNoWord : PySem.W.keepIn K (.ref CNoWord) = true) (xbNoWord : PySem.W.subIn K (.ref CNoWord) (.type "BaseException") = some true) (xtNoWord : PySem.W.typeIn K (.ref CNoWord) = some (.type "type"))
    (xTwice : PySem.W.excIn K CTwice [.type "ValueError", .type "Exception", .type "BaseException", .type "object"] "ValueError.__new__" = true) (xkTwice : PySem.W.keepIn K (.ref CTwice) = true) (xbTwice : PySem.W.subIn K (.ref CTwice) (.type "BaseException") = some true) (xtTwice : PySem.W.typeIn K (.ref CTwice) = some (.type "type"))
    (hn : PySem.W.specialIn K (.builtin "object.__class__") "__get__" = some (some (.builtin "getset_descriptor.__get__"))) (ht : PySem.W.takesIn K (.builtin "object.__class__") = some true)
    (ydNoWord : PySem.W.hasDictIn K CNoWord = true) (ytNoWord : PySem.W.typeIn K (.ref CNoWord) = some (.type "type"))
    (ydNoSigns : PySem.W.hasDictIn K CNoSigns = true) (ytNoSigns : PySem.W.typeIn K (.ref CNoSigns) = some (.type "type"))
    (ydNoCount : PySem.W.hasDictIn K CNoCount = true) (ytNoCount : PySem.W.typeIn K (.ref CNoCount) = some (.type "type"))
    (ydTooMany : PySem.W.hasDictIn K CTooMany = true) (ytTooMany : PySem.W.typeIn K (.ref CTooMany) = some (.type "type"))
    (ydNoRing : PySem.W.hasDictIn K CNoRing = true) (ytNoRing : PySem.W.typeIn K (.ref CNoRing) = some (.type "type"))
    (ydTwice : PySem.W.hasDictIn K CTwice = true) (ytTwice : PySem.W.typeIn K (.ref CTwice) = some (.type "type"))
    (ydWordError : PySem.W.hasDictIn K CWordError = true) (ytWordError : PySem.W.typeIn K (.ref CWordError) = some (.type "type"))
    (ybW : PySem.W.subIn K (.ref CWordError) (.type "BaseException") = some true)
    (nelist : PySem.W.subIn K (.type "list") (.ref CWordError) = some false)
    (nestr : PySem.W.subIn K (.type "str") (.ref CWordError) = some false)
    (neNoneType : PySem.W.subIn K (.type "NoneType") (.ref CWordError) = some false)
    (neint : PySem.W.subIn K (.type "int") (.ref CWordError) = some false)
    (hgNoWord : PySem.W.findIn K (.ref CNoWord) "__getattribute__" = some (some (.builtin "BaseException.__getattribute__"))) (hkNoWord : PySem.W.findIn K (.ref CNoWord) "__getattr__" = some none) (hsNoWord : PySem.W.subIn K (.ref CNoWord) (.type "BaseException") = some true) (haNoWord : PySem.W.findIn K (.ref CNoWord) "__class__" = some (some (.builtin "object.__class__"))) (hmNoWord : PySem.W.mroIn K CNoWord (.type "object") = some true) (svNoWord : PySem.W.subIn K (.ref CNoWord) (.type "ValueError") = some true) (swNoWord : PySem.W.subIn K (.ref CNoWord) (.ref CWordError) = some true)
    (sNoWordNoWord : PySem.W.subIn K (.ref CNoWord) (.ref CNoWord) = some true)
    (sNoWordNoSigns : PySem.W.subIn K (.ref CNoWord) (.ref CNoSigns) = some false)
    (sNoWordNoCount : PySem.W.subIn K (.ref CNoWord) (.ref CNoCount) = some false)
    (sNoWordTooMany : PySem.W.subIn K (.ref CNoWord) (.ref CTooMany) = some false)
    (sNoWordNoRing : PySem.W.subIn K (.ref CNoWord) (.ref CNoRing) = some false)
    (sNoWordTwice : PySem.W.subIn K (.ref CNoWord) (.ref CTwice) = some false)
    (hgNoRing : PySem.W.findIn K (.ref CNoRing) "__getattribute__" = some (some (.builtin "BaseException.__getattribute__"))) (hkNoRing : PySem.W.findIn K (.ref CNoRing) "__getattr__" = some none) (hsNoRing : PySem.W.subIn K (.ref CNoRing) (.type "BaseException") = some true) (haNoRing : PySem.W.findIn K (.ref CNoRing) "__class__" = some (some (.builtin "object.__class__"))) (hmNoRing : PySem.W.mroIn K CNoRing (.type "object") = some true) (svNoRing : PySem.W.subIn K (.ref CNoRing) (.type "ValueError") = some true) (swNoRing : PySem.W.subIn K (.ref CNoRing) (.ref CWordError) = some true)
    (sNoRingNoWord : PySem.W.subIn K (.ref CNoRing) (.ref CNoWord) = some false)
    (sNoRingNoSigns : PySem.W.subIn K (.ref CNoRing) (.ref CNoSigns) = some false)
    (sNoRingNoCount : PySem.W.subIn K (.ref CNoRing) (.ref CNoCount) = some false)
    (sNoRingTooMany : PySem.W.subIn K (.ref CNoRing) (.ref CTooMany) = some false)
    (sNoRingNoRing : PySem.W.subIn K (.ref CNoRing) (.ref CNoRing) = some true)
    (sNoRingTwice : PySem.W.subIn K (.ref CNoRing) (.ref CTwice) = some false)
    (hgTwice : PySem.W.findIn K (.ref CTwice) "__getattribute__" = some (some (.builtin "BaseException.__getattribute__"))) (hkTwice : PySem.W.findIn K (.ref CTwice) "__getattr__" = some none) (hsTwice : PySem.W.subIn K (.ref CTwice) (.type "BaseException") = some true) (haTwice : PySem.W.findIn K (.ref CTwice) "__class__" = some (some (.builtin "object.__class__"))) (hmTwice : PySem.W.mroIn K CTwice (.type "object") = some true) (svTwice : PySem.W.subIn K (.ref CTwice) (.type "ValueError") = some true) (swTwice : PySem.W.subIn K (.ref CTwice) (.ref CWordError) = some true)
    (sTwiceNoWord : PySem.W.subIn K (.ref CTwice) (.ref CNoWord) = some false)
    (sTwiceNoSigns : PySem.W.subIn K (.ref CTwice) (.ref CNoSigns) = some false)
    (sTwiceNoCount : PySem.W.subIn K (.ref CTwice) (.ref CNoCount) = some false)
    (sTwiceTooMany : PySem.W.subIn K (.ref CTwice) (.ref CTooMany) = some false)
    (sTwiceNoRing : PySem.W.subIn K (.ref CTwice) (.ref CNoRing) = some false)
    (sTwiceTwice : PySem.W.subIn K (.ref CTwice) (.ref CTwice) = some true)
    : ∃ fd : FuncData, (∀ (s : Shared) (v : Value), BindsTo s fd ⟨[v], []⟩ [("_law_script", v)]) ∧ ∀ base : Heap, K.In base → base.Ns mainGlobals mg → FnOk l.prog w K mg base CX0 8 fa fd ["_law_script"] (sp_top K) := by
  have e := hfa.symm.trans (PySem.W.mg_of X G0 a25)
  cases e
  have T : Txt (⟨K, CWordError, CNoWord, CNoSigns, CNoCount, CTooMany, CNoRing, CTwice, CRings⟩ : G) mg := { nValueError := PySem.W.mg_none_of X G0 zValueError, nall := PySem.W.mg_none_of X G0 zall, nbool := PySem.W.mg_none_of X G0 zbool, nenumerate := PySem.W.mg_none_of X G0 zenumerate, nint := PySem.W.mg_none_of X G0 zint, nisinstance := PySem.W.mg_none_of X G0 zisinstance, nlen := PySem.W.mg_none_of X G0 zlen, nlist := PySem.W.mg_none_of X G0 zlist, nmin := PySem.W.mg_none_of X G0 zmin, nrange := PySem.W.mg_none_of X G0 zrange, nset := PySem.W.mg_none_of X G0 zset, nsorted := PySem.W.mg_none_of X G0 zsorted, nstr := PySem.W.mg_none_of X G0 zstr, nsum := PySem.W.mg_none_of X G0 zsum, kLETTERS := ⟨tLETTERS, PySem.W.mg_of X G0 gLETTERS⟩, kLONGEST := ⟨tLONGEST, PySem.W.mg_of X G0 gLONGEST⟩, cWordError := PySem.W.mg_of X G0 bWordError, cNoWord := PySem.W.mg_of X G0 bNoWord, cNoSigns := PySem.W.mg_of X G0 bNoSigns, cNoCount := PySem.W.mg_of X G0 bNoCount, cTooMany := PySem.W.mg_of X G0 bTooMany, cNoRing := PySem.W.mg_of X G0 bNoRing, cTwice := PySem.W.mg_of X G0 bTwice, cRings := PySem.W.mg_of X G0 bRings, eNoRing := ⟨PySem.W.mg_of X G0 bNoRing, xNoRing, xkNoRing, xbNoRing, xtNoRing⟩, eNoWord := ⟨PySem.W.mg_of X G0 bNoWord, xNoWord, xkNoWord, xbNoWord, xtNoWord⟩, eTwice := ⟨PySem.W.mg_of X G0 bTwice, xTwice, xkTwice, xbTwice, xtTwice⟩, rc := ⟨⟨pgR, hdR, poR, saR⟩, nNumR, nWorR, nNexR⟩ }
  have ONoWord : ErrOk (⟨K, CWordError, CNoWord, CNoSigns, CNoCount, CTooMany, CNoRing, CTwice, CRings⟩ : G) CNoWord 0 := ⟨⟨⟨hgNoWord, hkNoWord, hsNoWord, ydNoWord, haNoWord, hn, ht, hmNoWord⟩, kit_own ydNoWord ytNoWord sNoWordNoWord, kit_not ydNoSigns ytNoSigns sNoWordNoSigns sNoWordNoWord, kit_not ydNoCount ytNoCount sNoWordNoCount sNoWordNoWord, kit_not ydTooMany ytTooMany sNoWordTooMany sNoWordNoWord, kit_not ydNoRing ytNoRing sNoWordNoRing sNoWordNoWord, kit_not ydTwice ytTwice sNoWordTwice sNoWordNoWord, kit_val svNoWord⟩, PySem.W.exm_ref ybW ydWordError ytWordError swNoWord⟩
  have ONoRing : ErrOk (⟨K, CWordError, CNoWord, CNoSigns, CNoCount, CTooMany, CNoRing, CTwice, CRings⟩ : G) CNoRing 4 := ⟨⟨⟨hgNoRing, hkNoRing, hsNoRing, ydNoRing, haNoRing, hn, ht, hmNoRing⟩, kit_not ydNoWord ytNoWord sNoRingNoWord sNoRingNoRing, kit_not ydNoSigns ytNoSigns sNoRingNoSigns sNoRingNoRing, kit_not ydNoCount ytNoCount sNoRingNoCount sNoRingNoRing, kit_not ydTooMany ytTooMany sNoRingTooMany sNoRingNoRing, kit_own ydNoRing ytNoRing sNoRingNoRing, kit_not ydTwice ytTwice sNoRingTwice sNoRingNoRing, kit_val svNoRing⟩, PySem.W.exm_ref ybW ydWordError ytWordError swNoRing⟩
  have OTwice : ErrOk (⟨K, CWordError, CNoWord, CNoSigns, CNoCount, CTooMany, CNoRing, CTwice, CRings⟩ : G) CTwice 5 := ⟨⟨⟨hgTwice, hkTwice, hsTwice, ydTwice, haTwice, hn, ht, hmTwice⟩, kit_not ydNoWord ytNoWord sTwiceNoWord sTwiceTwice, kit_not ydNoSigns ytNoSigns sTwiceNoSigns sTwiceTwice, kit_not ydNoCount ytNoCount sTwiceNoCount sTwiceTwice, kit_not ydTooMany ytTooMany sTwiceTooMany sTwiceTwice, kit_not ydNoRing ytNoRing sTwiceNoRing sTwiceTwice, kit_own ydTwice ytTwice sTwiceTwice, kit_val svTwice⟩, PySem.W.exm_ref ybW ydWordError ytWordError swTwice⟩
  have WNoWord : ErrW (⟨K, CWordError, CNoWord, CNoSigns, CNoCount, CTooMany, CNoRing, CTwice, CRings⟩ : G) CNoWord := kit_sub ydWordError ytWordError swNoWord
  have WNoRing : ErrW (⟨K, CWordError, CNoWord, CNoSigns, CNoCount, CTooMany, CNoRing, CTwice, CRings⟩ : G) CNoRing := kit_sub ydWordError ytWordError swNoRing
  have WTwice : ErrW (⟨K, CWordError, CNoWord, CNoSigns, CNoCount, CTooMany, CNoRing, CTwice, CRings⟩ : G) CTwice := kit_sub ydWordError ytWordError swTwice
  have NE : NotErr (⟨K, CWordError, CNoWord, CNoSigns, CNoCount, CTooMany, CNoRing, CTwice, CRings⟩ : G) := ⟨kit_tyno ydWordError ytWordError nelist, kit_tyno ydWordError ytWordError nestr, kit_tyno ydWordError ytWordError neNoneType, kit_tyno ydWordError ytWordError neint⟩
  refine ⟨PySem.W.fnOf "law" "law" (defArgs s_law) (defBody s_law) (defScope s_law) .none kV25 dc25 pm25 an25 cd25 ct25, fun s v => .of_eq rfl, fun base _ _ => ?_⟩
  have H_is_word : Has l.prog w K mg base CX0 1 "is_word" ["thing"] (sp_is_word (⟨K, CWordError, CNoWord, CNoSigns, CNoCount, CTooMany, CNoRing, CTwice, CRings⟩ : G)) := has_is_word T ⟨_, _, fun_mk l1 c1 k1, PySem.W.mg_of X G0 a1⟩ 
  have H_from_place : Has l.prog w K mg base CX0 1 "from_place" ["word", "place"] (sp_from_place (⟨K, CWordError, CNoWord, CNoSigns, CNoCount, CTooMany, CNoRing, CTwice, CRings⟩ : G)) := has_from_place T ⟨_, _, fun_mk l2 c2 k2, PySem.W.mg_of X G0 a2⟩ 
  have H_least_place : Has l.prog w K mg base CX0 1 "least_place" ["word"] (sp_least_place (⟨K, CWordError, CNoWord, CNoSigns, CNoCount, CTooMany, CNoRing, CTwice, CRings⟩ : G)) := has_least_place T ⟨_, _, fun_mk l3 c3 k3, PySem.W.mg_of X G0 a3⟩ 
  have H_Rings___init__ : HasI l.prog w K mg base 1 CRings (sp_Rings___init__ (⟨K, CWordError, CNoWord, CNoSigns, CNoCount, CTooMany, CNoRing, CTwice, CRings⟩ : G)) := has_Rings___init__ T ⟨_, _, fun_mk l4 c4 k4, ⟨mkR, a4, i4, kcR⟩⟩ 
  have H_Rings_members : HasM l.prog w K mg base (L2.CX l.prog w) 1 CRings "members" ["self", "number"] (sp_k12_Rings_members (⟨K, CWordError, CNoWord, CNoSigns, CNoCount, CTooMany, CNoRing, CTwice, CRings⟩ : G)) := has_Rings_members T ⟨_, _, fun_mk l5 c5 k5, ⟨a5, i5, k5⟩⟩ 
  have H_Rings_forms : HasM l.prog w K mg base CX0 1 CRings "forms" ["self"] (sp_Rings_forms (⟨K, CWordError, CNoWord, CNoSigns, CNoCount, CTooMany, CNoRing, CTwice, CRings⟩ : G)) := has_Rings_forms T ⟨_, _, fun_mk l6 c6 k6, ⟨a6, i6, k6⟩⟩ 
  have H_Rings_many : HasM l.prog w K mg base CX0 1 CRings "many" ["self"] (sp_Rings_many (⟨K, CWordError, CNoWord, CNoSigns, CNoCount, CTooMany, CNoRing, CTwice, CRings⟩ : G)) := has_Rings_many T ⟨_, _, fun_mk l7 c7 k7, ⟨a7, i7, k7⟩⟩ 
  have H_law_mixed : Has l.prog w K mg base CX0 1 "_law_mixed" ["_law_cell", "_law_k"] (sp_law_mixed (⟨K, CWordError, CNoWord, CNoSigns, CNoCount, CTooMany, CNoRing, CTwice, CRings⟩ : G)) := has_law_mixed T ⟨_, _, fun_mk l8 c8 k8, PySem.W.mg_of X G0 a8⟩ 
  have H_law_whole : Has l.prog w K mg base CX0 1 "_law_whole" ["_law_found", "_law_due_here"] (sp_k12_whole (⟨K, CWordError, CNoWord, CNoSigns, CNoCount, CTooMany, CNoRing, CTwice, CRings⟩ : G)) := has_law_whole T ⟨_, _, fun_mk l9 c9 k9, PySem.W.mg_of X G0 a9⟩ 
  have H_law_turnings : Has l.prog w K mg base CX0 1 "_law_turnings" ["_law_word"] (sp_law_turnings (⟨K, CWordError, CNoWord, CNoSigns, CNoCount, CTooMany, CNoRing, CTwice, CRings⟩ : G)) := has_law_turnings T ⟨_, _, fun_mk l10 c10 k10, PySem.W.mg_of X G0 a10⟩ 
  have H_law_no_word : Has l.prog w K mg base CX0 1 "_law_no_word" ["_law_mix"] (sp_law_no_word (⟨K, CWordError, CNoWord, CNoSigns, CNoCount, CTooMany, CNoRing, CTwice, CRings⟩ : G)) := has_law_no_word T ⟨_, _, fun_mk l11 c11 k11, PySem.W.mg_of X G0 a11⟩ 
  have H_law_mark : Has l.prog w K mg base CX0 1 "_law_mark" ["_law_e"] (sp_law_mark (⟨K, CWordError, CNoWord, CNoSigns, CNoCount, CTooMany, CNoRing, CTwice, CRings⟩ : G)) := has_law_mark T ⟨_, _, fun_mk l12 c12 k12, PySem.W.mg_of X G0 a12⟩ 
  have H_need_word : Has l.prog w K mg base (L2.CX l.prog w) 2 "need_word" ["thing"] (sp_need_word (⟨K, CWordError, CNoWord, CNoSigns, CNoCount, CTooMany, CNoRing, CTwice, CRings⟩ : G)) := has_need_word T ⟨_, _, fun_mk l13 c13 k13, PySem.W.mg_of X G0 a13⟩ H_is_word
  have H_law_drawn : Has l.prog w K mg base CX0 2 "_law_drawn" ["_law_cell", "_law_signs", "_law_many"] (sp_law_drawn (⟨K, CWordError, CNoWord, CNoSigns, CNoCount, CTooMany, CNoRing, CTwice, CRings⟩ : G)) := has_law_drawn T ⟨_, _, fun_mk l14 c14 k14, PySem.W.mg_of X G0 a14⟩ H_law_mixed
  have H_law_ring : Has l.prog w K mg base CX0 2 "_law_ring" ["_law_own", "_law_word"] (sp_law_ring (⟨K, CWordError, CNoWord, CNoSigns, CNoCount, CTooMany, CNoRing, CTwice, CRings⟩ : G)) := has_law_ring T ⟨_, _, fun_mk l15 c15 k15, PySem.W.mg_of X G0 a15⟩ H_law_turnings
  have H_least_form : Has l.prog w K mg base (L2.CX l.prog w) 3 "least_form" ["word"] (sp_least_form (⟨K, CWordError, CNoWord, CNoSigns, CNoCount, CTooMany, CNoRing, CTwice, CRings⟩ : G)) := has_least_form T ⟨_, _, fun_mk l16 c16 k16, PySem.W.mg_of X G0 a16⟩ H_from_place H_least_place H_need_word
  have H_law_due : Has l.prog w K mg base CX0 3 "_law_due" ["_law_own", "_law_way", "_law_word"] (sp_law_due (⟨K, CWordError, CNoWord, CNoSigns, CNoCount, CTooMany, CNoRing, CTwice, CRings⟩ : G)) := has_law_due T ⟨_, _, fun_mk l17 c17 k17, PySem.W.mg_of X G0 a17⟩ H_law_ring
  have H_Rings_add : HasM l.prog w K mg base (L2.CX l.prog w) 4 CRings "add" ["self", "word"] (sp_Rings_add (⟨K, CWordError, CNoWord, CNoSigns, CNoCount, CTooMany, CNoRing, CTwice, CRings⟩ : G)) := has_Rings_add T ⟨_, _, fun_mk l18 c18 k18, ⟨a18, i18, k18⟩⟩ H_least_form
  have H_Rings_take : HasM l.prog w K mg base (L2.CX l.prog w) 4 CRings "take" ["self", "word"] (sp_k12_Rings_take (⟨K, CWordError, CNoWord, CNoSigns, CNoCount, CTooMany, CNoRing, CTwice, CRings⟩ : G)) := has_Rings_take T ⟨_, _, fun_mk l19 c19 k19, ⟨a19, i19, k19⟩⟩ H_least_form
  have H_Rings_ring_of : HasM l.prog w K mg base (L2.CX l.prog w) 4 CRings "ring_of" ["self", "word"] (sp_Rings_ring_of (⟨K, CWordError, CNoWord, CNoSigns, CNoCount, CTooMany, CNoRing, CTwice, CRings⟩ : G)) := has_Rings_ring_of T ⟨_, _, fun_mk l20 c20 k20, ⟨a20, i20, k20⟩⟩ H_least_form
  have H_Rings_others : HasM l.prog w K mg base (L2.CX l.prog w) 5 CRings "others" ["self", "word"] (sp_k12_Rings_others (⟨K, CWordError, CNoWord, CNoSigns, CNoCount, CTooMany, CNoRing, CTwice, CRings⟩ : G)) := has_Rings_others T ⟨_, _, fun_mk l21 c21 k21, ⟨a21, i21, k21⟩⟩ H_Rings_ring_of
  have H_law_told : Has l.prog w K mg base CX0 6 "_law_told" ["_law_book", "_law_way", "_law_thing"] (sp_k12_told (⟨K, CWordError, CNoWord, CNoSigns, CNoCount, CTooMany, CNoRing, CTwice, CRings⟩ : G)) := has_law_told T ⟨_, _, fun_mk l22 c22 k22, PySem.W.mg_of X G0 a22⟩ H_Rings_add H_Rings_members H_Rings_others H_Rings_ring_of H_Rings_take H_law_mark
  have H_law_stands : Has l.prog w K mg base CX0 7 "_law_stands" ["_law_book", "_law_own"] (sp_law_stands (⟨K, CWordError, CNoWord, CNoSigns, CNoCount, CTooMany, CNoRing, CTwice, CRings⟩ : G)) := has_law_stands T ⟨_, _, fun_mk l23 c23 k23, PySem.W.mg_of X G0 a23⟩ H_Rings_forms H_Rings_many H_law_told H_law_turnings H_law_whole
  have H_law_right : Has l.prog w K mg base CX0 7 "_law_right" ["_law_book", "_law_own", "_law_cell"] (sp_k12_right (⟨K, CWordError, CNoWord, CNoSigns, CNoCount, CTooMany, CNoRing, CTwice, CRings⟩ : G)) := has_law_right T ⟨_, _, fun_mk l24 c24 k24, PySem.W.mg_of X G0 a24⟩ H_law_drawn H_law_due H_law_mixed H_law_no_word H_law_told H_law_turnings
  exact ok_law (g := (⟨K, CWordError, CNoWord, CNoSigns, CNoCount, CTooMany, CNoRing, CTwice, CRings⟩ : G)) T (fun_mk l25 c25 k25) H_Rings___init__ H_law_mixed H_law_right H_law_stands (fun vs H Q E h => by obtain ⟨a, ns, rfl, hS, hl, q⟩ := h; exact ⟨a, ns, rfl, hS, by omega, ⟨ONoWord, ONoRing, OTwice, WNoWord, WNoRing, WTwice, NE⟩, T.rc, fun H' _ => q H'⟩)
end RW
open PySem PySem.W PyProof.Rows
set_option maxHeartbeats 0 in
theorem PySem.Challenge.cw_ringword_k12_book_holds : PySem.Challenge.rw_ringword_k12_book.Holds := by
  w_on; o_law; k_head; (case hw => w_witness2)
  k_fill
  refine L2.walk_of (l := PySem.Challenge.rw_ringword_k12_book) (n := 63) (k := 8) (x := "_law_script") (CX := fun _ => L2.CX0) (sp := fun w => RW.sp_top _) rfl (by decide) rfl ⟨rfl, by decide, by decide⟩ (fun w h Y => PySem.W.kIn_of Y) ?F (fun _ _ a ns hl _ hS => ⟨a, ns, rfl, hS, hl, fun _ => rfl⟩) (fun _ _ _ _ _ h => h)
  case F =>
    intro w mg fa h KX G hmg
    refine' RW.all_mk KX G hmg (bWordError := ?bWordError) (bNoWord := ?bNoWord) (bNoSigns := ?bNoSigns) (bNoCount := ?bNoCount) (bTooMany := ?bTooMany) (bNoRing := ?bNoRing) (bTwice := ?bTwice) (bRings := ?bRings) (a1 := ?a1) (l1 := ?l1) (c1 := ?c1) (k1 := ?k1) (a2 := ?a2) (l2 := ?l2) (c2 := ?c2) (k2 := ?k2) (a3 := ?a3) (l3 := ?l3) (c3 := ?c3) (k3 := ?k3) (a4 := ?a4) (i4 := ?i4) (l4 := ?l4) (c4 := ?c4) (k4 := ?k4) (a5 := ?a5) (i5 := ?i5) (l5 := ?l5) (c5 := ?c5) (k5 := ?k5) (a6 := ?a6) (i6 := ?i6) (l6 := ?l6) (c6 := ?c6) (k6 := ?k6) (a7 := ?a7) (i7 := ?i7) (l7 := ?l7) (c7 := ?c7) (k7 := ?k7) (a8 := ?a8) (l8 := ?l8) (c8 := ?c8) (k8 := ?k8) (a9 := ?a9) (l9 := ?l9) (c9 := ?c9) (k9 := ?k9) (a10 := ?a10) (l10 := ?l10) (c10 := ?c10) (k10 := ?k10) (a11 := ?a11) (l11 := ?l11) (c11 := ?c11) (k11 := ?k11) (a12 := ?a12) (l12 := ?l12) (c12 := ?c12) (k12 := ?k12) (a13 := ?a13) (l13 := ?l13) (c13 := ?c13) (k13 := ?k13) (a14 := ?a14) (l14 := ?l14) (c14 := ?c14) (k14 := ?k14) (a15 := ?a15) (l15 := ?l15) (c15 := ?c15) (k15 := ?k15) (a16 := ?a16) (l16 := ?l16) (c16 := ?c16) (k16 := ?k16) (a17 := ?a17) (l17 := ?l17) (c17 := ?c17) (k17 := ?k17) (a18 := ?a18) (i18 := ?i18) (l18 := ?l18) (c18 := ?c18) (k18 := ?k18) (a19 := ?a19) (i19 := ?i19) (l19 := ?l19) (c19 := ?c19) (k19 := ?k19) (a20 := ?a20) (i20 := ?i20) (l20 := ?l20) (c20 := ?c20) (k20 := ?k20) (a21 := ?a21) (i21 := ?i21) (l21 := ?l21) (c21 := ?c21) (k21 := ?k21) (a22 := ?a22) (l22 := ?l22) (c22 := ?c22) (k22 := ?k22) (a23 := ?a23) (l23 := ?l23) (c23 := ?c23) (k23 := ?k23) (a24 := ?a24) (l24 := ?l24) (c24 := ?c24) (k24 := ?k24) (a25 := ?a25) (l25 := ?l25) (c25 := ?c25) (k25 := ?k25) (pgR := ?pgR) (hdR := ?hdR) (poR := ?poR) (saR := ?saR) (mkR := ?mkR) (kcR := ?kcR) (nNumR := ?nNumR) (nWorR := ?nWorR) (nNexR := ?nNexR) (gLETTERS := ?gLETTERS) (gLONGEST := ?gLONGEST) (zValueError := ?zValueError) (zall := ?zall) (zbool := ?zbool) (zenumerate := ?zenumerate) (zint := ?zint) (zisinstance := ?zisinstance) (zlen := ?zlen) (zlist := ?zlist) (zmin := ?zmin) (zrange := ?zrange) (zset := ?zset) (zsorted := ?zsorted) (zstr := ?zstr) (zsum := ?zsum) (xkNoRing := ?xkNoRing) (xbNoRing := ?xbNoRing) (xtNoRing := ?xtNoRing) (xkNoWord := ?xkNoWord) (xbNoWord := ?xbNoWord) (xtNoWord := ?xtNoWord) (xkTwice := ?xkTwice) (xbTwice := ?xbTwice) (xtTwice := ?xtTwice) (hn := ?hn) (ht := ?ht) (ydNoWord := ?ydNoWord) (ytNoWord := ?ytNoWord) (ydNoSigns := ?ydNoSigns) (ytNoSigns := ?ytNoSigns) (ydNoCount := ?ydNoCount) (ytNoCount := ?ytNoCount) (ydTooMany := ?ydTooMany) (ytTooMany := ?ytTooMany) (ydNoRing := ?ydNoRing) (ytNoRing := ?ytNoRing) (ydTwice := ?ydTwice) (ytTwice := ?ytTwice) (ydWordError := ?ydWordError) (ytWordError := ?ytWordError) (ybW := ?ybW) (nelist := ?nelist) (nestr := ?nestr) (neNoneType := ?neNoneType) (neint := ?neint) (hgNoWord := ?hgNoWord) (hkNoWord := ?hkNoWord) (hsNoWord := ?hsNoWord) (haNoWord := ?haNoWord) (hmNoWord := ?hmNoWord) (svNoWord := ?svNoWord) (swNoWord := ?swNoWord) (sNoWordNoSigns := ?sNoWordNoSigns) (sNoWordNoCount := ?sNoWordNoCount) (sNoWordTooMany := ?sNoWordTooMany) (sNoWordNoRing := ?sNoWordNoRing) (sNoWordTwice := ?sNoWordTwice) (hgNoRing := ?hgNoRing) (hkNoRing := ?hkNoRing) (hsNoRing := ?hsNoRing) (haNoRing := ?haNoRing) (hmNoRing := ?hmNoRing) (svNoRing := ?svNoRing) (swNoRing := ?swNoRing) (sNoRingNoWord := ?sNoRingNoWord) (sNoRingNoSigns := ?sNoRingNoSigns) (sNoRingNoCount := ?sNoRingNoCount) (sNoRingTooMany := ?sNoRingTooMany) (sNoRingTwice := ?sNoRingTwice) (hgTwice := ?hgTwice) (hkTwice := ?hkTwice) (hsTwice := ?hsTwice) (haTwice := ?haTwice) (hmTwice := ?hmTwice) (svTwice := ?svTwice) (swTwice := ?swTwice) (sTwiceNoWord := ?sTwiceNoWord) (sTwiceNoSigns := ?sTwiceNoSigns) (sTwiceNoCount := ?sTwiceNoCount) (sTwiceTooMany := ?sTwiceTooMany) (sTwiceNoRing := ?sTwiceNoRing) (xNoRing := ?xNoRing) (xNoWord := ?xNoWord) (xTwice := ?xTwice) (sNoWordNoWord := ?sNoWordNoWord) (sNoRingNoRing := ?sNoRingNoRing) (sTwiceTwice := ?sTwiceTwice)
    (case bWordError => k_is)
    (case bNoWord => k_is)
    (case bNoSigns => k_is)
    (case bNoCount => k_is)
    (case bTooMany => k_is)
    (case bNoRing => k_is)
    (case bTwice => k_is)
    (case bRings => k_is)
    (case a1 => k_is)
    (case l1 => k_is)
    (case c1 => k_is)
    (case k1 => k_is)
    (case a2 => k_is)
    (case l2 => k_is)
    (case c2 => k_is)
    (case k2 => k_is)
    (case a3 => k_is)
    (case l3 => k_is)
    (case c3 => k_is)
    (case k3 => k_is)
    (case a4 => k_is)
    (case i4 => k_is)
    (case l4 => k_is)
    (case c4 => k_is)
    (case k4 => k_is)
    (case a5 => k_is)
    (case i5 => k_is)
    (case l5 => k_is)
    (case c5 => k_is)
    (case k5 => k_is)
    (case a6 => k_is)
    (case i6 => k_is)
    (case l6 => k_is)
    (case c6 => k_is)
    (case k6 => k_is)
    (case a7 => k_is)
    (case i7 => k_is)
    (case l7 => k_is)
    (case c7 => k_is)
    (case k7 => k_is)
    (case a8 => k_is)
    (case l8 => k_is)
    (case c8 => k_is)
    (case k8 => k_is)
    (case a9 => k_is)
    (case l9 => k_is)
    (case c9 => k_is)
    (case k9 => k_is)
    (case a10 => k_is)
    (case l10 => k_is)
    (case c10 => k_is)
    (case k10 => k_is)
    (case a11 => k_is)
    (case l11 => k_is)
    (case c11 => k_is)
    (case k11 => k_is)
    (case a12 => k_is)
    (case l12 => k_is)
    (case c12 => k_is)
    (case k12 => k_is)
    (case a13 => k_is)
    (case l13 => k_is)
    (case c13 => k_is)
    (case k13 => k_is)
    (case a14 => k_is)
    (case l14 => k_is)
    (case c14 => k_is)
    (case k14 => k_is)
    (case a15 => k_is)
    (case l15 => k_is)
    (case c15 => k_is)
    (case k15 => k_is)
    (case a16 => k_is)
    (case l16 => k_is)
    (case c16 => k_is)
    (case k16 => k_is)
    (case a17 => k_is)
    (case l17 => k_is)
    (case c17 => k_is)
    (case k17 => k_is)
    (case a18 => k_is)
    (case i18 => k_is)
    (case l18 => k_is)
    (case c18 => k_is)
    (case k18 => k_is)
    (case a19 => k_is)
    (case i19 => k_is)
    (case l19 => k_is)
    (case c19 => k_is)
    (case k19 => k_is)
    (case a20 => k_is)
    (case i20 => k_is)
    (case l20 => k_is)
    (case c20 => k_is)
    (case k20 => k_is)
    (case a21 => k_is)
    (case i21 => k_is)
    (case l21 => k_is)
    (case c21 => k_is)
    (case k21 => k_is)
    (case a22 => k_is)
    (case l22 => k_is)
    (case c22 => k_is)
    (case k22 => k_is)
    (case a23 => k_is)
    (case l23 => k_is)
    (case c23 => k_is)
    (case k23 => k_is)
    (case a24 => k_is)
    (case l24 => k_is)
    (case c24 => k_is)
    (case k24 => k_is)
    (case a25 => k_is)
    (case l25 => k_is)
    (case c25 => k_is)
    (case k25 => k_is)
    (case pgR => k_is)
    (case hdR => k_is)
    (case poR => k_is)
    (case saR => k_is)
    (case mkR => k_is)
    (case kcR => k_is)
    (case nNumR => k_is)
    (case nWorR => k_is)
    (case nNexR => k_is)
    (case gLETTERS => k_is)
    (case gLONGEST => k_is)
    (case zValueError => k_is)
    (case zall => k_is)
    (case zbool => k_is)
    (case zenumerate => k_is)
    (case zint => k_is)
    (case zisinstance => k_is)
    (case zlen => k_is)
    (case zlist => k_is)
    (case zmin => k_is)
    (case zrange => k_is)
    (case zset => k_is)
    (case zsorted => k_is)
    (case zstr => k_is)
    (case zsum => k_is)
    (case xkNoRing => k_is)
    (case xbNoRing => k_is)
    (case xtNoRing => k_is)
    (case xkNoWord => k_is)
    (case xbNoWord => k_is)
    (case xtNoWord => k_is)
    (case xkTwice => k_is)
    (case xbTwice => k_is)
    (case xtTwice => k_is)
    (case hn => k_is)
    (case ht => k_is)
    (case ydNoWord => k_is)
    (case ytNoWord => k_is)
    (case ydNoSigns => k_is)
    (case ytNoSigns => k_is)
    (case ydNoCount => k_is)
    (case ytNoCount => k_is)
    (case ydTooMany => k_is)
    (case ytTooMany => k_is)
    (case ydNoRing => k_is)
    (case ytNoRing => k_is)
    (case ydTwice => k_is)
    (case ytTwice => k_is)
    (case ydWordError => k_is)
    (case ytWordError => k_is)
    (case ybW => k_is)
    (case nelist => k_is)
    (case nestr => k_is)
    (case neNoneType => k_is)
    (case neint => k_is)
    (case hgNoWord => k_is)
    (case hkNoWord => k_is)
    (case hsNoWord => k_is)
    (case haNoWord => k_is)
    (case hmNoWord => k_is)
    (case svNoWord => k_is)
    (case swNoWord => k_is)
    (case sNoWordNoSigns => k_is)
    (case sNoWordNoCount => k_is)
    (case sNoWordTooMany => k_is)
    (case sNoWordNoRing => k_is)
    (case sNoWordTwice => k_is)
    (case hgNoRing => k_is)
    (case hkNoRing => k_is)
    (case hsNoRing => k_is)
    (case haNoRing => k_is)
    (case hmNoRing => k_is)
    (case svNoRing => k_is)
    (case swNoRing => k_is)
    (case sNoRingNoWord => k_is)
    (case sNoRingNoSigns => k_is)
    (case sNoRingNoCount => k_is)
    (case sNoRingTooMany => k_is)
    (case sNoRingTwice => k_is)
    (case hgTwice => k_is)
    (case hkTwice => k_is)
    (case hsTwice => k_is)
    (case haTwice => k_is)
    (case hmTwice => k_is)
    (case svTwice => k_is)
    (case swTwice => k_is)
    (case sTwiceNoWord => k_is)
    (case sTwiceNoSigns => k_is)
    (case sTwiceNoCount => k_is)
    (case sTwiceTooMany => k_is)
    (case sTwiceNoRing => k_is)
    (case xNoRing => k_exc)
    (case xNoWord => k_exc)
    (case xTwice => k_exc)
    (case sNoWordNoWord => first | rfl | k_is)
    (case sNoRingNoRing => first | rfl | k_is)
    (case sTwiceTwice => first | rfl | k_is)


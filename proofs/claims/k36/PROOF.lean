import PyProof.Rows.All
import Wide.All
import OpenK.AllK
import Wide.FinOn
import HandS.ForMost
import HandS.ForExc
import HandS.Evl
import HandS.TupAny
import HandS.TupMul
import HandS.TryMany
import HandS.ExcField
import HandS.ExcInit
import HandS.Zip
import HandS.DictComp
import HandS.Defaults
import HandS.More
import HandS.SetKeys
import HandS.Deep
import HandS.Codes
import HandS.HeadHook2
import HandS.HeadHook4
import HandS.HeadEnd
import HandS.Head2
import KE.KIsAll
import KE.KEqSeq
import PyProof.StrLawsChain
import PyProof.StrLawsTight
import PyProof.StrLawsAffix
import HandS.IsInst
import KE.BitLaws
import HandS.ExcIs
import HandS.Strs
import PyProof.Rows.StrMeet
import KE.GoesEnum
import KE.GoesMore
import HandS.Walk
import HandS.Style
import HandS.ExcOwn
import PyProof.P3Eq
import HandS.SetFor
import KE.SortData
import HandS.Remove
import PySem.Challenge.RW_sameanswers_k36_versions_of_a_trunk
set_option Elab.async false
set_option linter.all false
set_option maxRecDepth 100000
set_option maxHeartbeats 4000000
namespace Sa
open PySem PySem.Spec PyProof.Rows L2

/-! ## operators whatever the operands are -/
section
variable {X : Cx}
def orR (r r' : R2) : R2 := fun x y H Q => r x y H Q ∨ r' x y H Q
def rAddS : R2 := fun x y H Q => ∃ i j, x = .str i ∧ y = .str j ∧ i.length + j.length ≤ sizeLine ∧ Q (.str (i ++ j)) H
def rAddU (K : PySem.W.Frag) : R2 := orR (rI0 fun i j => .int (i + j)) (orR rAddS (orR rCat (rCatA K)))
theorem op_addU {K : PySem.W.Frag} (hK : X.K = K := by rfl) : OpR X (binaryOp .Add) (rAddU K) := hK ▸ op_add.or (op_add_str.or (op_cat.or op_catA))
/-- a text n times -/
def rptS (z : Str) (n : Int) : Str := ⟨(List.replicate n.toNat z.cps.toList).flatten.toArray⟩
theorem foldl_cps (a : Array Nat) : ∀ (m : Nat) (b : Array Nat), (List.replicate m a).foldl (fun x y => x ++ y) b = (b.toList ++ (List.replicate m a.toList).flatten).toArray
  | 0, b => by simp
  | m + 1, b => by
    rw [List.replicate_succ, List.foldl_cons, foldl_cps a m (b ++ a), List.replicate_succ, List.flatten_cons, Array.toList_append, List.append_assoc]
def rMulS : R2 := fun x y H Q => ∃ (z : Str) (n : Int), x = .str z ∧ y = .int n ∧ -(2 ^ 63) ≤ n ∧ n < 2 ^ 63 ∧ z.length * n.toNat ≤ sizeLine ∧ Q (.str (rptS z n)) H
theorem rptS_len (z : Str) (n : Int) : (rptS z n).length = z.length * n.toNat := by
  show ((List.replicate n.toNat z.cps.toList).flatten.toArray).size = z.cps.size * n.toNat
  rw [List.size_toArray, List.length_flatten, List.map_replicate, List.sum_replicate_nat, Array.length_toList, Nat.mul_comm]
theorem rptS_one {z : Str} : rptS z 1 = z := by
  show Str.mk _ = z
  cases z
  simp [rptS]
theorem op_mulS : OpR X (binaryOp .Mult) rMulS := by
  intro pins s σ H x y v u Q I rx ry h
  obtain ⟨z, n, rfl, rfl, h1, h2, hl, q⟩ := h
  obtain ⟨t, rfl⟩ := rx
  obtain ⟨t', rfl⟩ := ry
  have fin : ∀ t tk, EP X pins σ Q (.str (rptS z n) t) { s with toks := tk } := fun t tk => ⟨.str (rptS z n), H, I.tok _, ⟨_, rfl⟩, q⟩
  have e63 : (2 : Int) ^ 63 = 9223372036854775808 := by decide
  rw [e63] at h1 h2
  refine PySem.P.mul_str (by rw [e63, decide_eq_false (by omega), decide_eq_false (by omega)]; rfl) (fun hn hz hgt => ?_) (fun _ _ => decide_eq_false (by omega)) ?_
  · rw [sizeLine_eq] at hl
    have hz1 : n ≠ 1 ∧ z.length ≠ 0 := by simpa using hz
    have e : ((z.length * n.toNat : Nat) : Int) = (z.length : Int) * n := by rw [Int.natCast_mul]; congr 1; omega
    have g : (z.length : Int) ≤ 9223372036854775807 / n := (Int.le_ediv_iff_mul_le (by omega)).mpr (by omega)
    rw [e63] at hgt
    have g2 : (9223372036854775808 - 1 : Int) / n = 9223372036854775807 / n := rfl
    omega
  · by_cases hn : n < 1
    · rw [if_pos hn]
      refine ⟨by decide, ?_⟩
      have e : rptS z n = Str.empty := by
        have : n.toNat = 0 := by omega
        unfold rptS
        rw [this]
        rfl
      rw [← e]
      exact fin _ _
    · rw [if_neg hn]
      by_cases h : (n == 1 || z.length == 0) = true
      · rw [if_pos h]
        have e : rptS z n = z := by
          rcases Bool.or_eq_true _ _ |>.mp h with h | h
          · rw [eq_of_beq h, rptS_one]
          · have hl0 : z.cps = #[] := Array.size_eq_zero_iff.mp (eq_of_beq h)
            have hz : z = ⟨#[]⟩ := by cases z; simp_all
            subst hz
            simp [rptS]
        have f := fin t s.toks
        rw [e] at f
        exact f
      · rw [if_neg h]
        have e : (⟨(List.replicate n.toNat z.cps).foldl (· ++ ·) #[]⟩ : Str) = rptS z n := by
          rw [foldl_cps]
          simp [rptS]
        rw [e]
        exact ⟨by rw [rptS_len]; exact hl, fin _ _⟩
def rMulU (K : PySem.W.Frag) : R2 := orR (rI CMul fun i j => .int (i * j)) (orR rRep (orR (rRepT K) rMulS))
theorem op_mulU {K : PySem.W.Frag} (hK : X.K = K := by rfl) : OpR X (binaryOp .Mult) (rMulU K) := hK ▸ op_mul.or (op_rep.or (op_repT.or op_mulS))
def rSubU : R2 := rI0 fun i j => .int (i - j)
theorem op_subU : OpR X (binaryOp .Sub) rSubU := op_sub
def rDivU : R2 := rI CDiv fun i j => .int (i / j)
theorem op_divU : OpR X (binaryOp .FloorDiv) rDivU := op_fdiv
def rModU : R2 := rI (fun _ j => 0 < j) fun i j => .int (i % j)
theorem op_modU : OpR X (binaryOp .Mod) rModU := op_mod
def rBandU : R2 := rI0 fun i j => .int (Builtin.bitAnd i j)
theorem op_bandU : OpR X (binaryOp .BitAnd) rBandU := op_and
def rOrdS (p : List Nat → List Nat → Bool) : R2 := fun x y H Q => ∃ i j, x = .str i ∧ y = .str j ∧ Q (.bl (p i.cps.toList j.cps.toList)) H
def rLtU : R2 := orR (rI0 fun i j => .bl (decide (i < j))) (rOrdS fun a b => decide (a < b))
def rLeU : R2 := orR (rI0 fun i j => .bl (decide (i ≤ j))) (rOrdS fun a b => !decide (b < a))
def rGtU : R2 := orR (rI0 fun i j => .bl (decide (j < i))) (rOrdS fun a b => decide (b < a))
def rGeU : R2 := orR (rI0 fun i j => .bl (decide (j ≤ i))) (rOrdS fun a b => !decide (a < b))
theorem op_ltU : OpR X (compareOp .Lt) rLtU := op_lt.or op_lt_str
theorem op_leU : OpR X (compareOp .LtE) rLeU := op_le.or op_le_str
theorem op_gtU : OpR X (compareOp .Gt) rGtU := op_gt.or op_gt_str
theorem op_geU : OpR X (compareOp .GtE) rGeU := op_ge.or op_ge_str
def rEqU (K : PySem.W.Frag) : R2 := orR rEq (rEqD K)
def rNeU (K : PySem.W.Frag) : R2 := orR rNe (rNeD K)
theorem op_eqU {K : PySem.W.Frag} {A : Around} (hu : A.units + 64 < cLine) (hA : X.A = A := by rfl) (hK : X.K = K := by rfl) : OpR X (compareOp .Eq) (rEqU K) := hK ▸ op_eq.or (op_eqD (by rw [hA]; exact hu))
theorem op_neU {K : PySem.W.Frag} {A : Around} (hu : A.units + 64 < cLine) (hA : X.A = A := by rfl) (hK : X.K = K := by rfl) : OpR X (compareOp .NotEq) (rNeU K) := hK ▸ op_ne.or (op_neD (by rw [hA]; exact hu))
def rIsU : R2 := fun x y H Q => y = .non ∧ Q (.bl (decide (x = .non))) H
def rIsNotU : R2 := fun x y H Q => y = .non ∧ Q (.bl (!decide (x = .non))) H
theorem op_isU : OpR X (compareOp .Is) rIsU := op_isN
theorem op_isNotU : OpR X (compareOp .IsNot) rIsNotU := op_notN
def rInC : R2 := fun x y H Q => ∃ (c : Nat) (z : Str), x = .str ⟨#[c]⟩ ∧ y = .str z ∧ Q (.bl (decide (c ∈ z.cps.toList))) H
def rInT : R2 := fun x y H Q => ∃ i j, x = .str i ∧ y = .str j ∧ Q (.bl (!(Builtin.Str.occurrences j i 0 j.length 1).isEmpty)) H
def rNotInC : R2 := fun x y H Q => ∃ (c : Nat) (z : Str), x = .str ⟨#[c]⟩ ∧ y = .str z ∧ Q (.bl (!decide (c ∈ z.cps.toList))) H
def rNotInT : R2 := fun x y H Q => ∃ i j, x = .str i ∧ y = .str j ∧ Q (.bl (!(!(Builtin.Str.occurrences j i 0 j.length 1).isEmpty))) H
def rInU (K : PySem.W.Frag) : R2 := orR rInC (orR rInT (rIn K false))
def rNotInU (K : PySem.W.Frag) : R2 := orR rNotInC (orR rNotInT (rIn K true))
theorem op_inU {K : PySem.W.Frag} (hK : X.K = K := by rfl) : OpR X (compareOp .In) (rInU K) := hK ▸ op_in_sign.or (op_in_str.or op_in_seq)
theorem op_notInU {K : PySem.W.Frag} (hK : X.K = K := by rfl) : OpR X (compareOp .NotIn) (rNotInU K) := hK ▸ op_notIn_sign.or (op_notin_str.or op_notIn_seq)
def rSlU (K : PySem.W.Frag) : V → Option Int → Option Int → Hp → VK → Prop := fun x lo hi H Q => rSlL K x lo hi H Q ∨ rSlS x lo hi H Q ∨ rSlA K x lo hi H Q
theorem ix_U {K : PySem.W.Frag} (hK : X.K = K := by rfl) : IxR X (rIx K) := hK ▸ ix_seq
theorem sl_U {K : PySem.W.Frag} (hK : X.K = K := by rfl) : SlR X (rSlU K) := hK ▸ L2.SlR.or sl_list (L2.SlR.or sl_str sl_tupA)
/-! any of whole numbers -/
def rAnyI (K : PySem.W.Frag) : List V → Hp → VK → Prop := fun vs H Q => ∃ (a : Addr) (ns : List Int), vs = [V.ref a] ∧ SqL K H a (ns.map V.int) ∧ Q (.bl (ns.any (· != 0))) H
theorem any_rangeI : ∀ ns : List Int, ((List.range ns.length).any fun i => ns.getD i 0 != 0) = ns.any (· != 0)
  | [] => rfl
  | n :: ns => by
    have ih := any_rangeI ns
    rw [List.length_cons, List.range_succ_eq_map, List.any_cons, List.any_map, List.any_cons, ← ih]
    rfl
theorem cr_anyI (hc : X.calm = true) : CallR X (.builtin "any") (rAnyI X.K) := by
  intro pins s σ H vs us Q I r h
  obtain ⟨a, ns, rfl, hs, q⟩ := h
  obtain ⟨its, rv, hl, _⟩ := I.list hs
  have hi := rv.ints
  have hlen : its.length = ns.length := by rw [← rv.length, List.length_map]
  rw [Vals.ref1 r]
  refine call_any_walk (iter_any hl.isList fun s₂ e2 st hne => ?_)
  cases e2
  refine ⟨_, _, _, _, _, _, fun i => ns.getD i 0 != 0, rfl, Walks.list (A := X.A.in1) (I.ok.hd hc) _ a hne its.toArray, st, fun i v s Q E hv hq => ?_, fun h' tk hk => ?_⟩
  · have hv' : its[i]? = some v := by simpa using hv
    obtain ⟨n, hn⟩ : ∃ n, ns[i]? = some n := by
      have hlt := (List.getElem?_eq_some_iff.mp hv').1
      exact ⟨ns[i]'(by omega), List.getElem?_eq_getElem (by omega)⟩
    obtain ⟨u, hu, ru⟩ := rv.get (i := i) (x := V.int n) (by rw [List.getElem?_map, hn]; rfl)
    rw [hv'] at hu
    cases hu
    obtain ⟨t, rfl⟩ := ru
    have e : ns.getD i 0 = n := by rw [List.getD_eq_getElem?_getD, hn]; rfl
    have hq' : Q (ns.getD i 0 != 0) s := hq
    rw [e] at hq'
    exact truthy_int hq'
  · refine ⟨.bl _, H, I.kept fun b o eo => hk b o (fun hmem => ?_) (Heap.get?_push_of_some _ eo), ?_, q⟩
    · rcases List.mem_cons.mp hmem with e1 | hmem
      · exact absurd (e1 ▸ Heap.lt_size eo) (Nat.lt_irrefl _)
      · cases hmem
    · show Value.bool _ = Value.bool _
      rw [List.size_toArray, hlen, any_rangeI]
def rAnyU (K : PySem.W.Frag) : List V → Hp → VK → Prop := fun vs H Q => rAny K vs H Q ∨ rAnyI K vs H Q
theorem CallR.or2 {f : Value} {r r' : List V → Hp → VK → Prop} (h : CallR X f r) (h' : CallR X f r') : CallR X f (fun vs H Q => r vs H Q ∨ r' vs H Q) := by
  intro pins s σ H vs us Q I rr q
  exact q.elim (fun q => h pins s σ H vs us Q I rr q) (fun q => h' pins s σ H vs us Q I rr q)
theorem cr_anyU {K : PySem.W.Frag} (hc : X.calm = true) (hK : X.K = K := by rfl) : CallR X (.builtin "any") (rAnyU K) := hK ▸ CallR.or2 (cr_any hc) (cr_anyI hc)
end
end Sa

namespace Sa
open PySem L2

/-! ## the text's facts -/
def dOf (x : Str) (st : Stmt) : He.DefD := ⟨(x, none), x, x, defArgs st, defBody st, defScope st, [], []⟩
/-- further facts of classes: an error class with an __init__ of its own, whose fields are read -/
inductive Fx where
  | oex (x : Str)
  | xf (x : Str)
  | cst (x : Str) (d : PyData)
  | cstA (p : PySem.W.Frag → Addr) (d : PyData)
  | exi (x : Str)
  | kit (x y : Str) (b : Bool)
  | gaeq (x y : Str)
/-! what is written in the top as data -/
mutual
def cstB (K : PySem.W.Frag) : PyData → Value → Bool
  | .none, v => decide (v = .none)
  | .bool b, v => decide (v = .bool b)
  | .int i, v => (match v with
    | .int j _ => decide (i = j)
    | _ => false)
  | .str x, v => (match v with
    | .str y _ => decide (x = y)
    | _ => false)
  | .list _, _ => false
  | .tuple ds, v => (match v with
    | .ref a => (match K.lookup a with
      | some ⟨.type t, _, .seq its _, _⟩ => decide (t = "tuple") && (decide (its.size ≤ sizeLine) && cstAll K ds its.toList)
      | _ => false)
    | _ => false)
  | .dict _, _ => false
def cstAll (K : PySem.W.Frag) : List PyData → List Value → Bool
  | [], [] => true
  | d :: ds, v :: vs => cstB K d v && cstAll K ds vs
  | [], _ :: _ => false
  | _ :: _, [] => false
end
mutual
theorem cstB_ok {K : PySem.W.Frag} : ∀ (d : PyData) (v : Value), cstB K d v = true → ∃ x, RelV x v ∧ ∀ H, Dp K H x d
  | .none, v, h => by
    unfold cstB at h
    cases of_decide_eq_true h
    exact ⟨.non, rfl, fun H => .non⟩
  | .bool b, v, h => by
    unfold cstB at h
    cases of_decide_eq_true h
    exact ⟨.bl b, rfl, fun H => .bl b⟩
  | .int i, v, h => by
    unfold cstB at h
    split at h
    · rename_i j t
      cases of_decide_eq_true h
      exact ⟨.int i, ⟨t, rfl⟩, fun H => .int i⟩
    · cases h
  | .str x, v, h => by
    unfold cstB at h
    split at h
    · rename_i y t
      cases of_decide_eq_true h
      exact ⟨.str x, ⟨t, rfl⟩, fun H => .str x⟩
    · cases h
  | .list _, v, h => by unfold cstB at h; cases h
  | .dict _, v, h => by unfold cstB at h; cases h
  | .tuple ds, v, h => by
    unfold cstB at h
    split at h
    · rename_i a
      split at h
      · rename_i t dd its n sl hk
        simp only [Bool.and_eq_true, decide_eq_true_eq] at h
        obtain ⟨rfl, hz, ha⟩ := h
        obtain ⟨xs, r, hx⟩ := cstAll_ok ds its.toList ha
        exact ⟨.ref a, rfl, fun H => .tup (.inr ⟨_, its, n, hk, rfl, rfl, hz, r⟩) (hx H)⟩
      · cases h
    · cases h
theorem cstAll_ok {K : PySem.W.Frag} : ∀ (ds : List PyData) (vs : List Value), cstAll K ds vs = true → ∃ xs, Vals xs vs ∧ ∀ H, DpAll K H xs ds
  | [], [], _ => ⟨[], .nil, fun H => .nil⟩
  | d :: ds, v :: vs, h => by
    unfold cstAll at h
    rw [Bool.and_eq_true] at h
    obtain ⟨x, r1, h1⟩ := cstB_ok d v h.1
    obtain ⟨xs, r2, h2⟩ := cstAll_ok ds vs h.2
    exact ⟨x :: xs, .cons r1 r2, fun H => .cons (h1 H) (h2 H)⟩
  | [], _ :: _, h => by unfold cstAll at h; cases h
  | _ :: _, [], h => by unfold cstAll at h; cases h
end
theorem cst_ref {K : PySem.W.Frag} {d : PyData} {a : Addr} (h : cstB K d (.ref a) = true) (H : Hp) : Dp K H (.ref a) d := by
  obtain ⟨x, r, hx⟩ := cstB_ok d _ h
  cases x <;> first | (cases r; done) | (obtain ⟨_, r⟩ := r; cases r; done) | (injection r with r; subst r; exact hx H)
def oexB (K : PySem.W.Frag) (C : Addr) : Bool :=
  (match K.lookup C with
  | some ⟨.type t, _, .cls cd, sl⟩ => (match cd.mro, sl.toList with
    | .ref D :: bm, [_, _, _, _, some (.builtin n), _] => decide (t = "type") && (decide (D = C) && (decide (n = "ValueError.__new__") && (!cd.hasDel && (cd.hasDict && PySem.HandSPX.refsVE bm))))
    | _, _ => false)
  | _ => false) && (decide (PySem.W.findIn K (.ref C) "__setattr__" = some (some (.builtin "object.__setattr__"))) && (decide (PySem.W.subIn K (.ref C) (.type "BaseException") = some true) &&
    (decide (PySem.W.typeIn K (.ref C) = some (.type "type")) && PySem.W.keepIn K (.ref C))))
theorem oexB_ok {K : PySem.W.Frag} {C : Addr} (h : oexB K C = true) : OexC K C := by
  unfold oexB at h
  rw [Bool.and_eq_true] at h
  obtain ⟨h1, h2⟩ := h
  simp only [Bool.and_eq_true, decide_eq_true_eq] at h2
  obtain ⟨h3, h4, h5, h6⟩ := h2
  refine ⟨?_, h3, h4, h5, h6⟩
  cases q : K.lookup C with
  | none => rw [q] at h1; cases h1
  | some o =>
    rw [q] at h1
    obtain ⟨oc, dd, dt, sl⟩ := o
    cases oc <;> try (cases h1; done)
    cases dt <;> try (cases h1; done)
    rename_i t cd
    obtain ⟨nm, bs, mro, ns, qn, hd, sn, sub, ab, col, dl⟩ := cd
    obtain ⟨l⟩ := sl
    dsimp only at h1
    split at h1
    · rename_i m1 l1 D bm k0 k1 k2 k3 n k5
      simp only [Bool.and_eq_true, decide_eq_true_eq, Bool.not_eq_true'] at h1
      obtain ⟨rfl, rfl, rfl, hdel, rfl, hr⟩ := h1
      subst hdel
      exact ⟨nm, qn, ns, bs, bm, sn, sub, ab, col, dd, k0, k1, k2, k3, k5, rfl, hr⟩
    · cases h1
/-- what isinstance asks of an error's class -/
def exiB (K : PySem.W.Frag) (D : Addr) : Bool :=
  decide (PySem.W.findIn K (.ref D) "__getattribute__" = some (some (.builtin "BaseException.__getattribute__"))) && (decide (PySem.W.findIn K (.ref D) "__getattr__" = some none) &&
  (decide (PySem.W.subIn K (.ref D) (.type "BaseException") = some true) && (PySem.W.hasDictIn K D && (decide (PySem.W.findIn K (.ref D) "__class__" = some (some (.builtin "object.__class__"))) &&
  (decide (PySem.W.specialIn K (.builtin "object.__class__") "__get__" = some (some (.builtin "getset_descriptor.__get__"))) && (decide (PySem.W.takesIn K (.builtin "object.__class__") = some true) && decide (PySem.W.mroIn K D (.type "object") = some true)))))))
def Fx.ok (K : PySem.W.Frag) : Fx → Bool
  | .oex x => oexB K (He.ga K x)
  | .xf x => xfB K (He.ga K x)
  | .cst x d => cstB K d (.ref (He.ga K x))
  | .cstA p d => cstB K d (.ref (p K))
  | .exi x => exiB K (He.ga K x)
  | .kit x y b => decide (PySem.W.kitOne K (.ref (He.ga K x)) (.ref (He.ga K y)) = some b)
  | .gaeq x y => decide (He.ga K x = He.ga K y)
def exs (fx : List Fx) (K : PySem.W.Frag) : Bool := fx.all fun f => f.ok K
def Tx (fa : List He.Fa) (fn : List He.DefD) (fx : List Fx) (K : PySem.W.Frag) (mg : Str → Option Value) : Prop := ∃ h : Heap, K.In h ∧ h.Ns mainGlobals mg ∧ He.SaysD fa fn K ∧ exs fx K = true
section
variable {fa : List He.Fa} {fn : List He.DefD} {fx : List Fx} {K : PySem.W.Frag} {mg : Str → Option Value}
theorem Tx.free (T : Tx fa fn fx K mg) (i : Nat) {x : Str} (h : fa[i]? = some (.free x) := by rfl) : mg x = none := by
  obtain ⟨hp, X, G, c, _⟩ := T
  exact He.free_ok X G (c.fact i h)
theorem Tx.glo (T : Tx fa fn fx K mg) (i : Nat) {x : Str} (h : fa[i]? = some (.glo x) := by rfl) : mg x = some (.ref (He.ga K x)) := by
  obtain ⟨hp, X, G, c, _⟩ := T
  exact He.glo_ok X G (c.fact i h)
theorem Tx.int (T : Tx fa fn fx K mg) (i : Nat) {x : Str} {n : Int} (h : fa[i]? = some (.int x n) := by rfl) : ∃ t, mg x = some (.int n t) := by
  obtain ⟨hp, X, G, c, _⟩ := T
  exact He.int_ok X G (c.fact i h)
theorem Tx.str (T : Tx fa fn fx K mg) (i : Nat) {x z : Str} (h : fa[i]? = some (.str x z) := by rfl) : ∃ t, mg x = some (.str z t) := by
  obtain ⟨hp, X, G, c, _⟩ := T
  exact He.str_ok X G (c.fact i h)
end
theorem Tx.fact {fa : List He.Fa} {fn : List He.DefD} {fx : List Fx} {K : PySem.W.Frag} {mg : Str → Option Value} (T : Tx fa fn fx K mg) (i : Nat) {f : He.Fa} (h : fa[i]? = some f := by rfl) : f.ok K = true := by
  obtain ⟨hp, X, G, c, _⟩ := T
  exact c.fact i h
theorem Tx.fx {fa : List He.Fa} {fn : List He.DefD} {fx : List Fx} {K : PySem.W.Frag} {mg : Str → Option Value} (T : Tx fa fn fx K mg) (i : Nat) {f : Fx} (h : fx[i]? = some f := by rfl) : f.ok K = true := by
  obtain ⟨hp, X, G, c, e⟩ := T
  exact List.all_eq_true.mp e f (List.mem_of_getElem? h)
/-- a def that stands under the module's name x and keeps sp -/
structure DefAt (P : Program) (w : World) (K : PySem.W.Frag) (mg : Str → Option Value) (base : Heap) (CX : CXT) (x : Str) (k : Nat) (ps : List Str) (sp : Sp) : Prop where
  gl : mg x = some (.ref (He.ga K x))
  kp : PySem.W.keepIn K (.ref (He.ga K x)) = true
  ok : ∃ fd, FnOk P w K mg base CX k (He.ga K x) fd ps sp ∧ Binds K fd ps []
/-- how a def without defaults binds its parameters -/
def BindN (x : Str) (st : Stmt) (ps : List Str) : Prop := ∀ (kV doc pm : Value) (an : Option Addr) (cdv ct : Value) (us : List Value), us.length = ps.length →
  bindArgs (PySem.W.fnOf x x (defArgs st) (defBody st) (defScope st) .none kV doc pm an cdv ct) ⟨us, []⟩ = pure (ps.zip us)
section
variable {fa : List He.Fa} {fn : List He.DefD} {fx : List Fx} {P : Program} {w : World} {K : PySem.W.Frag} {mg : Str → Option Value} {base : Heap}
/-- what a body owes -/
def Body (P : Program) (w : World) (K : PySem.W.Frag) (mg : Str → Option Value) (base : Heap) (x : Str) (st : Stmt) (N : List Str) (k : Nat) (sp : Sp) : Prop :=
  ∀ (cdv : Value) (A : Around) (outer : List Env) (s : Shared) (H : Hp) (vs : List V) (Q : VK) (E : XK), sp vs H Q E → let X : Cx := (cxOf CX0 P w K mg base N x (defScope st) (He.ga K x) cdv A outer s H E).nox
    Room k X.A → ∃ t, PSs X (defBody st) t ∧ t { nx := fun _ H' => Q .non H', rt := Q } (start N vs) H
theorem def_of (T : Tx fa fn fx K mg) (i j : Nat) {x : Str} {st : Stmt} {N ps : List Str} {k : Nat} {sp : Sp} (S : FnScope N ps (defScope st)) (B : BindN x st ps) (len : ∀ vs H Q E, sp vs H Q E → vs.length = ps.length)
    (body : Body P w K mg base x st N k sp) (hd : fn[i]? = some (dOf x st) := by rfl) (hg : fa[j]? = some (.glo x) := by rfl) : DefAt P w K mg base CX0 x (k + 1) ps sp := by
  have gl := T.glo j hg
  obtain ⟨hp, X, G, c, _⟩ := T
  obtain ⟨fd, F⟩ := c.def_ i hd
  refine ⟨gl, F.kp, fd, F.ok S len fun cdv A outer s H vs Q E hr h => ?_, F.bindsN B⟩
  obtain ⟨t, h1, h2⟩ := body cdv A outer s H vs Q E h hr
  exact ⟨t, h1.nox, h2⟩
end
/-- the law's own def, for the end -/
theorem law_of {fa : List He.Fa} {fn : List He.DefD} {P : Program} {w : World} {K : PySem.W.Frag} {mg : Str → Option Value} {h : Heap} {f : Addr} {N : List Str} {x : Str} {st : Stmt} {k : Nat} {sp : Sp} (KX : K.In h) (G : h.Ns mainGlobals mg) (c : He.SaysD fa fn K)
    (hf : mg "law" = some (.ref f)) (i j : Nat) (S : FnScope N [x] (defScope st)) (B : BindN "law" st [x]) (len : ∀ vs H Q E, sp vs H Q E → vs.length = 1) (body : ∀ base, Body P w K mg base "law" st N k sp)
    (hd : fn[i]? = some (dOf "law" st) := by rfl) (hg : fa[j]? = some (.glo "law") := by rfl) :
    ∃ fd : FuncData, (∀ (s : Shared) (v : Value), BindsTo s fd ⟨[v], []⟩ [(x, v)]) ∧ ∀ base : Heap, K.In base → base.Ns mainGlobals mg → FnOk P w K mg base CX0 (k + 1) f fd [x] sp := by
  obtain ⟨fd, F⟩ := c.def_ i hd
  have gl := He.glo_ok KX G (c.fact j hg)
  cases hf.symm.trans gl
  have b := F.bindsA (ps := [x]) B
  refine ⟨fd, fun s v => b s [v] rfl, fun base _ _ => F.ok S len fun cdv A outer s H vs Q E hr h => ?_⟩
  obtain ⟨t, h1, h2⟩ := body base cdv A outer s H vs Q E h hr
  exact ⟨t, h1.nox, h2⟩
theorem DefAt.up {P : Program} {w : World} {K : PySem.W.Frag} {mg : Str → Option Value} {base : Heap} {CX : CXT} {x : Str} {j k : Nat} {ps : List Str} {sp : Sp} (D : DefAt P w K mg base CX x j ps sp) (h : j ≤ k) : DefAt P w K mg base CX x k ps sp :=
  ⟨D.gl, D.kp, let ⟨fd, F, B⟩ := D.ok; ⟨fd, F.mono h, B⟩⟩
section
variable {X : Cx} {CX : CXT} {x : Str} {k j : Nat} {ps : List Str} {sp : Sp} {E : XK} {p pos : Pos} {e : Expr} {es : List Expr} {t : TA}
def tCallA (sp : Sp) (E : XK) (t : TA) : TE := fun σ H Q => t σ H fun vs H1 => sp vs H1 Q E
theorem pe_callA (D : DefAt X.prog X.w X.K X.mg X.base CX x j ps sp) (hr : Room k X.A) (hx : Passes CX X E) (ha : PA X (e :: es) t) (hjk : j ≤ k := by decide) (hg : Gl X x := by rfl)
    (hdb : (x == ("__debug__" : Str)) = false := by decide) (he : starEach (e :: es) X.env = (false, eval e X.env) :: starEach es X.env := by rfl) (hpl : (backTo pos (starEach es X.env)).any (·.1) = false := by rfl) :
    PE X (.Call (.Name x p) (e :: es) [] pos) (tCallA sp E t) := by
  obtain ⟨fd, F, B⟩ := D.ok
  have h := pe_call (F.mono hjk) hr hg D.gl D.kp B .nil hx ha hdb he hpl (p := p)
  have e : tCall sp [] E t = tCallA sp E t := by
    funext σ H Q
    unfold tCall tCallA
    simp only [List.append_nil]
  rw [← e]
  exact h
theorem pe_gInt {i : Int} (hm : ∃ t, X.mg x = some (.int i t)) (hg : Gl X x := by rfl) (hd : (x == ("__debug__" : Str)) = false := by decide) : PE X (.Name x pos) (tC (.int i)) :=
  let ⟨t, h⟩ := hm; pe_glob hg h ⟨t, rfl⟩ hd
theorem pe_gStr {z : Str} (hm : ∃ t, X.mg x = some (.str z t)) (hg : Gl X x := by rfl) (hd : (x == ("__debug__" : Str)) = false := by decide) : PE X (.Name x pos) (tC (.str z)) :=
  let ⟨t, h⟩ := hm; pe_glob hg h ⟨t, rfl⟩ hd
end

theorem pe_gCon {X : Cx} {x : Str} {pos : Pos} {a : Addr} (hm : X.mg x = some (.ref a)) (hg : Gl X x := by rfl) (hd : (x == ("__debug__" : Str)) = false := by decide) : PE X (.Name x pos) (tC (.ref a)) := pe_glob hg hm rfl hd
/-! ## readings, one step at a time -/
/-- a new object o at p: all else is as it was -/
structure New (H : Hp) (p : Addr) (o : HO) (H' : Hp) : Prop where
  fr : H p = none
  eq : H' = upd H p o
section
variable {K : PySem.W.Frag} {σ : St} {H : Hp} {D : Ends} {Q : VK} {i j : Int} {n : Nat} {v x y : V} {te ta tb tc : TE} {t u : TS} {g : TG} {tt tA tB1 : TT} {r r' : R2} {a b p : Addr} {xs ys : List V} {s z : Str}
theorem c_seq (h : t { D with nx := u D } σ H) : tSeq t u D σ H := h
theorem c_next (h : D.nx σ H) : tNext D σ H := h
theorem c_ret (h : te σ H D.rt) : tRet te D σ H := h
theorem c_retN (h : D.rt .non H) : tRetN D σ H := h
theorem c_asg (h : te σ H fun x H1 => g x σ H1 D.nx) : tAsg te g D σ H := h
theorem c_gName {R : St → Hp → Prop} (h : R (σ.set n (some v)) H) : gName n v σ H R := h
theorem c_drop (h : te σ H fun _ H1 => D.nx σ H1) : tDrop te D σ H := h
theorem c_ifs (h : tt σ H fun b H1 => if b = true then t D σ H1 else u D σ H1) : tIfS tt t u D σ H := h
theorem c_var (e : σ[n]? = some (some v)) (q : Q v H) : tVar n σ H Q := ⟨v, e, q⟩
theorem c_c (q : Q v H) : tC v σ H Q := q
theorem c_op (h : ta σ H fun x H1 => tb σ H1 fun y H2 => r x y H2 Q) : tOp r ta tb σ H Q := h
theorem c_chain (h : ta σ H fun x H1 => tb σ H1 fun y H2 => r x y H2 fun z H3 => ∃ k, z = .bl k ∧ (if k = true then tc σ H3 fun w' H4 => r' y w' H4 Q else Q (.bl false) H3)) : tChain r r' ta tb tc σ H Q := h
theorem c_test {R : Bool → Hp → Prop} (h : te σ H fun x H1 => ∃ k, x = .bl k ∧ R k H1) : tTest te σ H R := h
theorem c_tB {R : Bool → Hp → Prop} (h : te σ H fun x H1 => ∃ k, x = .bl k ∧ R k H1) : tB te σ H R := h
theorem c_not {R : Bool → Hp → Prop} (h : tt σ H fun c H1 => R (!c) H1) : tNot tt σ H R := h
theorem c_and {R : Bool → Hp → Prop} (h : tA σ H fun c H1 => if c = true then tB1 σ H1 R else R false H1) : tAnd tA tB1 σ H R := h
theorem c_or {R : Bool → Hp → Prop} (h : tA σ H fun c H1 => if c = true then R true H1 else tB1 σ H1 R) : tOr tA tB1 σ H R := h
theorem c_andV (h : ta σ H fun x H1 => ∃ c, x = .bl c ∧ if c = true then tb σ H1 Q else Q (.bl false) H1) : tAndV ta tb σ H Q := h
theorem c_orV (h : ta σ H fun x H1 => ∃ c, x = .bl c ∧ if c = true then Q (.bl true) H1 else tb σ H1 Q) : tOrV ta tb σ H Q := h
theorem c_notV (h : ta σ H fun x H1 => ∃ c, x = .bl c ∧ Q (.bl (!c)) H1) : tNotV ta σ H Q := h
theorem c_if (h : tt σ H fun c H1 => if c = true then ta σ H1 Q else tb σ H1 Q) : tIf tt ta tb σ H Q := h
theorem c_nil {R : List V → Hp → Prop} (h : R [] H) : tNil σ H R := h
theorem c_cons {tr : TA} {R : List V → Hp → Prop} (h : te σ H fun x H1 => tr σ H1 fun xs H2 => R (x :: xs) H2) : tCons te tr σ H R := h
theorem c_call {sp : Sp} {E : XK} {tr : TA} (h : tr σ H fun vs H1 => sp vs H1 Q E) : tCallA sp E tr σ H Q := h
theorem c_cb {rr : List V → Hp → VK → Prop} {tr : TA} (h : tr σ H fun vs H1 => rr vs H1 Q) : tCB rr tr σ H Q := h
def Ret (Q : VK) (v : V) (H : Hp) : Prop := Q v H
theorem c_nw {A : Prop} {o : HO} (hl : A) (h : ∀ p H', New H p o H' → Q (.ref p) H') : A ∧ ∀ p, H p = none → Ret Q (.ref p) (upd H p o) := ⟨hl, fun p hp => h p _ ⟨hp, rfl⟩⟩
theorem c_tup {tr : TA} (h : tr σ H fun xs H1 => xs.length ≤ sizeLine ∧ ∀ p, H1 p = none → Ret Q (.ref p) (upd H1 p (.tup xs))) : tTup tr σ H Q := h
theorem c_lst {tr : TA} (h : tr σ H fun xs H1 => xs.length ≤ sizeLine ∧ ∀ p, H1 p = none → Ret Q (.ref p) (upd H1 p (.lst xs))) : tLst tr σ H Q := h
theorem c_sl {rr : V → Option Int → Option Int → Hp → VK → Prop} {tl th : TO} (h : te σ H fun x H1 => tl σ H1 fun l H2 => th σ H2 fun u H3 => rr x l u H3 Q) : tSl rr te tl th σ H Q := h
theorem c_noPart {R : Option Int → Hp → Prop} (h : R none H) : tNoPart σ H R := h
theorem c_part {R : Option Int → Hp → Prop} (h : te σ H fun x H1 => ∃ i, x = .int i ∧ R (some i) H1) : tPart te σ H R := h
theorem c_bm {T : String} {rr : V → List V → Hp → VK → Prop} {tr : TA} (h : te σ H fun x H1 => tyV K T x H1 ∧ tr σ H1 fun xs H2 => rr x xs H2 Q) : tBM K T rr te tr σ H Q := h
theorem c_bm0 {T : String} {rr : V → List V → Hp → VK → Prop} (h : te σ H fun x H1 => tyV K T x H1 ∧ rr x [] H1 Q) : tBM0 K T rr te σ H Q := h
/-! answers of operators -/
theorem c_bl {b : Bool} {R : Bool → Prop} (h : R b) : ∃ k, V.bl b = V.bl k ∧ R k := ⟨b, rfl, h⟩
theorem c_int {R : Int → Prop} (h : R i) : ∃ k, V.int i = V.int k ∧ R k := ⟨i, rfl, h⟩
theorem c_addI (q : Q (.int (i + j)) H) : rAddU K (.int i) (.int j) H Q := .inl ⟨i, j, rfl, rfl, q⟩
theorem c_addS (hl : s.length + z.length ≤ sizeLine) (q : Q (.str (s ++ z)) H) : rAddU K (.str s) (.str z) H Q := .inr (.inl ⟨s, z, rfl, rfl, hl, q⟩)
theorem c_addL (ha : H a = some (.lst xs)) (hb : H b = some (.lst ys)) (hl : xs.length + ys.length ≤ sizeLine) (q : ∀ p H', New H p (.lst (xs ++ ys)) H' → Q (.ref p) H') : rAddU K (.ref a) (.ref b) H Q :=
  .inr (.inr (.inl ⟨a, b, xs, ys, rfl, rfl, ha, hb, hl, fun p hp => q p _ ⟨hp, rfl⟩⟩))
theorem c_subI (q : Q (.int (i - j)) H) : rSubU (.int i) (.int j) H Q := ⟨i, j, rfl, rfl, q⟩
theorem c_mulI (hc : (-(2 ^ 64) < i ∧ i < 2 ^ 64) ∨ (-(2 ^ 64) < j ∧ j < 2 ^ 64)) (q : Q (.int (i * j)) H) : rMulU K (.int i) (.int j) H Q := .inl ⟨i, j, rfl, rfl, hc, q⟩
theorem c_mulL (ha : H a = some (.lst xs)) (h0 : -(2 ^ 63) ≤ j) (h1 : j < 2 ^ 63) (hl : xs.length * j.toNat ≤ sizeLine) (q : ∀ p H', New H p (.lst (List.replicate j.toNat xs).flatten) H' → Q (.ref p) H') : rMulU K (.ref a) (.int j) H Q :=
  .inr (.inl ⟨a, j, xs, rfl, rfl, ha, h0, h1, hl, fun p hp => q p _ ⟨hp, rfl⟩⟩)
theorem c_mulT (ha : SqT K H a xs) (hne : xs ≠ []) (h0 : 2 ≤ j) (h1 : j ≤ 1000) (hl : xs.length ≤ 1000) (q : ∀ p H', New H p (.tup (List.replicate j.toNat xs).flatten) H' → Q (.ref p) H') : rMulU K (.ref a) (.int j) H Q :=
  .inr (.inr (.inl ⟨a, j, xs, rfl, rfl, ha, hne, h0, h1, hl, fun p hp => q p _ ⟨hp, rfl⟩⟩))
theorem c_mulS (h0 : -9223372036854775808 ≤ j) (h1 : j < 9223372036854775808) (hl : z.length * j.toNat ≤ sizeLine) (q : Q (.str (rptS z j)) H) : rMulU K (.str z) (.int j) H Q :=
  .inr (.inr (.inr ⟨z, j, rfl, rfl, by simpa using h0, by simpa using h1, hl, q⟩))
theorem c_divI (hc : 0 < j ∧ j < 1073741824) (q : Q (.int (i / j)) H) : rDivU (.int i) (.int j) H Q := ⟨i, j, rfl, rfl, hc, q⟩
theorem c_modI (hc : 0 < j) (q : Q (.int (i % j)) H) : rModU (.int i) (.int j) H Q := ⟨i, j, rfl, rfl, hc, q⟩
theorem c_bandI (q : Q (.int (Builtin.bitAnd i j)) H) : rBandU (.int i) (.int j) H Q := ⟨i, j, rfl, rfl, q⟩
theorem c_ltI (q : Q (.bl (decide (i < j))) H) : rLtU (.int i) (.int j) H Q := .inl ⟨i, j, rfl, rfl, q⟩
theorem c_leI (q : Q (.bl (decide (i ≤ j))) H) : rLeU (.int i) (.int j) H Q := .inl ⟨i, j, rfl, rfl, q⟩
theorem c_gtI (q : Q (.bl (decide (j < i))) H) : rGtU (.int i) (.int j) H Q := .inl ⟨i, j, rfl, rfl, q⟩
theorem c_geI (q : Q (.bl (decide (j ≤ i))) H) : rGeU (.int i) (.int j) H Q := .inl ⟨i, j, rfl, rfl, q⟩
theorem dI : decide (V.int i = V.int j) = decide (i = j) := by rw [dec_int]; exact Bool.beq_eq_decide_eq _ _
theorem dS : decide (V.str s = V.str z) = decide (s = z) := by rw [dec_str]; exact Bool.beq_eq_decide_eq _ _
theorem c_eqI (q : Q (.bl (decide (i = j))) H) : rEqU K (.int i) (.int j) H Q := .inl ⟨rfl, by rw [dI]; exact q⟩
theorem c_neI (q : Q (.bl (!decide (i = j))) H) : rNeU K (.int i) (.int j) H Q := .inl ⟨rfl, by rw [dI]; exact q⟩
theorem c_eqS (q : Q (.bl (decide (s = z))) H) : rEqU K (.str s) (.str z) H Q := .inl ⟨rfl, by rw [dS]; exact q⟩
theorem c_neS (q : Q (.bl (!decide (s = z))) H) : rNeU K (.str s) (.str z) H Q := .inl ⟨rfl, by rw [dS]; exact q⟩
theorem c_eqB {b c : Bool} (q : Q (.bl (b == c)) H) : rEqU K (.bl b) (.bl c) H Q := .inl ⟨rfl, by rw [dec_bl]; exact q⟩
theorem c_neB {b c : Bool} (q : Q (.bl (b != c)) H) : rNeU K (.bl b) (.bl c) H Q := .inl ⟨rfl, by rw [dec_bl]; exact q⟩
theorem c_eqD {d e : PyData} (hx : Dp K H x d) (hy : Dp K H y e) (sd : SeqAt.shaped d = true) (se : SeqAt.shaped e = true) (q : Q (.bl (PyData.eqv d e)) H) : rEqU K x y H Q := .inr ⟨d, e, hx, hy, sd, se, q⟩
theorem c_neD {d e : PyData} (hx : Dp K H x d) (hy : Dp K H y e) (sd : SeqAt.shaped d = true) (se : SeqAt.shaped e = true) (q : Q (.bl (!PyData.eqv d e)) H) : rNeU K x y H Q := .inr ⟨d, e, hx, hy, sd, se, q⟩
theorem c_isN (q : Q (.bl (decide (x = .non))) H) : rIsU x .non H Q := ⟨rfl, q⟩
theorem c_notN (q : Q (.bl (!decide (x = .non))) H) : rIsNotU x .non H Q := ⟨rfl, q⟩
theorem c_inC {c : Nat} (q : Q (.bl (decide (c ∈ z.cps.toList))) H) : rInU K (.str ⟨#[c]⟩) (.str z) H Q := .inl ⟨c, z, rfl, rfl, q⟩
theorem c_notInC {c : Nat} (q : Q (.bl (!decide (c ∈ z.cps.toList))) H) : rNotInU K (.str ⟨#[c]⟩) (.str z) H Q := .inl ⟨c, z, rfl, rfl, q⟩
theorem c_ixL (h : SqL K H a xs) (e : atI xs i = some v) (q : Q v H) : rIx K (.ref a) (.int i) H Q := .inl ⟨a, xs, i, v, rfl, rfl, h, e, q⟩
theorem c_ixT (h : SqT K H a xs) (e : atI xs i = some v) (q : Q v H) : rIx K (.ref a) (.int i) H Q := .inr (.inl ⟨a, xs, i, v, rfl, rfl, h, e, q⟩)
theorem c_ixS {c : Nat} (h : z.length ≤ sizeLine) (e : atI z.cps.toList i = some c) (q : Q (.str ⟨#[c]⟩) H) : rIx K (.str z) (.int i) H Q := .inr (.inr ⟨z, i, c, rfl, rfl, h, e, q⟩)
theorem c_slL {lo hi : Option Int} (h : SqL K H a xs) (q : ∀ p H', New H p (.lst (cutV xs lo hi)) H' → Q (.ref p) H') : rSlU K (.ref a) lo hi H Q := .inl ⟨a, xs, rfl, h, fun p hp => q p _ ⟨hp, rfl⟩⟩
theorem c_slS {lo hi : Option Int} (h : z.length ≤ sizeLine) (q : Q (.str (cutS z lo hi)) H) : rSlU K (.str z) lo hi H Q := .inr (.inl ⟨z, rfl, h, q⟩)
theorem c_append {l : Addr} (h : H l = some (.lst xs)) (hl : xs.length < sizeLine) (q : Q .non (upd H l (.lst (xs ++ [y])))) : rAppend (.ref l) [y] H Q := ⟨l, xs, y, rfl, rfl, h, hl, q⟩
theorem c_tyL (h : SqL K H a xs) : tyV K "list" (.ref a) H := Or.inl ⟨rfl, _, h⟩
theorem c_tyA {B : Prop} (h : SqL K H a xs) (q : B) : tyV K "list" (.ref a) H ∧ B := ⟨c_tyL h, q⟩
theorem c_setL {l : Addr} {k : Nat} {R : Hp → Prop} (h : H l = some (.lst xs)) (e : ixN xs.length i = some k) (q : R (upd H l (.lst (xs.set k v)))) : rSetL (.ref l) (.int i) v H R := ⟨l, xs, i, k, rfl, rfl, h, e, q⟩
theorem c_gSub {to ti : TE} {ts : TSet} {R : St → Hp → Prop} (h : to σ H fun o H1 => ti σ H1 fun i H2 => ts o i v H2 fun H3 => R σ H3) : gSub to ti ts v σ H R := h
theorem lt_one {c d : Nat} : decide ((⟨#[c]⟩ : Str).cps.toList < (⟨#[d]⟩ : Str).cps.toList) = decide (c < d) := by
  show decide ([c] < [d]) = _
  congr 1
  simp [List.cons_lt_cons_iff]
theorem q_of {b c : Bool} (e : b = c) (q : Q (.bl c) H) : Q (.bl b) H := e ▸ q
theorem ge_one {c d : Nat} : (!decide ((⟨#[d]⟩ : Str).cps.toList < (⟨#[c]⟩ : Str).cps.toList)) = decide (c ≤ d) := by rw [lt_one]; by_cases h : c ≤ d <;> simp [h] <;> omega
theorem c_leC {c d : Nat} (q : Q (.bl (decide (c ≤ d))) H) : rLeU (.str ⟨#[c]⟩) (.str ⟨#[d]⟩) H Q := .inr ⟨_, _, rfl, rfl, q_of ge_one q⟩
theorem c_ltC {c d : Nat} (q : Q (.bl (decide (c < d))) H) : rLtU (.str ⟨#[c]⟩) (.str ⟨#[d]⟩) H Q := .inr ⟨_, _, rfl, rfl, q_of lt_one q⟩
theorem c_gtC {c d : Nat} (q : Q (.bl (decide (d < c))) H) : rGtU (.str ⟨#[c]⟩) (.str ⟨#[d]⟩) H Q := .inr ⟨_, _, rfl, rfl, q_of lt_one q⟩
theorem c_geC {c d : Nat} (q : Q (.bl (decide (d ≤ c))) H) : rGeU (.str ⟨#[c]⟩) (.str ⟨#[d]⟩) H Q := .inr ⟨_, _, rfl, rfl, q_of ge_one q⟩
/-! tests of values -/
theorem c_truB {b : Bool} {R : Bool → Prop} (q : R b) : ∃ k, TruV K (.bl b) H k ∧ R k := ⟨b, rfl, q⟩
theorem c_truL {R : Bool → Prop} (h : SqL K H a xs) (q : R (!xs.isEmpty)) : ∃ k, TruV K (.ref a) H k ∧ R k := ⟨_, .inl ⟨xs, h, rfl⟩, q⟩
theorem c_truS {R : Bool → Prop} (h : s.length ≤ sizeLine) (q : R ((s.length : Int) != 0)) : ∃ k, TruV K (.str s) H k ∧ R k := ⟨_, ⟨h, rfl⟩, q⟩
/-! conditions -/
theorem c_ite {c : Prop} [Decidable c] {A B : Prop} (h1 : c → A) (h2 : ¬ c → B) : if decide c = true then A else B := by
  by_cases h : c
  · rw [decide_eq_true h, if_pos rfl]; exact h1 h
  · rw [decide_eq_false h, if_neg Bool.false_ne_true]; exact h2 h
theorem c_iteN {c : Prop} [Decidable c] {A B : Prop} (h1 : ¬ c → A) (h2 : c → B) : if (!decide c) = true then A else B := by
  by_cases h : c
  · rw [decide_eq_true h, Bool.not_true, if_neg Bool.false_ne_true]; exact h2 h
  · rw [decide_eq_false h, Bool.not_false, if_pos rfl]; exact h1 h
theorem c_iteT {b : Bool} {A B : Prop} (hb : b = true) (h : A) : if b = true then A else B := by rw [if_pos hb]; exact h
theorem c_iteF {b : Bool} {A B : Prop} (hb : b = false) (h : B) : if b = true then A else B := by rw [hb, if_neg Bool.false_ne_true]; exact h
theorem c_it1 {A B : Prop} (h : A) : if true = true then A else B := c_iteT rfl h
theorem c_it2 {A B : Prop} (h : B) : if false = true then A else B := c_iteF rfl h
theorem c_it3 {A B : Prop} (h : A) : if (!false) = true then A else B := c_iteT rfl h
theorem c_it4 {A B : Prop} (h : B) : if (!true) = true then A else B := c_iteF rfl h
theorem c_iteB {b : Bool} {A B : Prop} (h1 : b = true → A) (h2 : b = false → B) : if b = true then A else B := by
  cases b with
  | true => exact c_iteT rfl (h1 rfl)
  | false => exact c_iteF rfl (h2 rfl)
theorem c_iteNB {b : Bool} {A B : Prop} (h1 : b = false → A) (h2 : b = true → B) : if (!b) = true then A else B := by
  cases b with
  | true => exact c_iteF rfl (h2 rfl)
  | false => exact c_iteT rfl (h1 rfl)
end
end Sa

namespace Sa
open PySem L2

/-! ## built-ins by names of their readings -/
section
variable {X : Cx} {K : PySem.W.Frag} {H : Hp} {Q : VK} {i j : Int} {a : Addr} {xs : List V} {s z : Str}
def rLenU (K : PySem.W.Frag) : List V → Hp → VK → Prop := fun xs H Q => ∃ x n, xs = [x] ∧ LenV K x H n ∧ Q (.int n) H
theorem cr_len {K : PySem.W.Frag} (hK : X.K = K := by rfl) : CallR X (.builtin "len") (rLenU K) := hK ▸ call_len
theorem c_lenL (h : SqL K H a xs) (q : Q (.int xs.length) H) : rLenU K [.ref a] H Q := ⟨_, _, rfl, .inl ⟨xs, h, rfl⟩, q⟩
theorem c_lenT (h : SqT K H a xs) (q : Q (.int xs.length) H) : rLenU K [.ref a] H Q := ⟨_, _, rfl, .inr ⟨xs, h, rfl⟩, q⟩
theorem c_lenS (h : s.length ≤ sizeLine) (q : Q (.int s.length) H) : rLenU K [.str s] H Q := ⟨_, _, rfl, ⟨h, rfl⟩, q⟩
def rIntU : List V → Hp → VK → Prop := fun xs H Q => (∃ i, xs = [.int i] ∧ Q (.int i) H) ∨ ∃ k, xs = [.bl k] ∧ Q (.int (if k then 1 else 0)) H
theorem cr_int : CallR X (.type "int") rIntU := call_int1
theorem c_intI (q : Q (.int i) H) : rIntU [.int i] H Q := .inl ⟨i, rfl, q⟩
def rOrdU : List V → Hp → VK → Prop := fun xs H Q => ∃ x, xs = [.str x] ∧ x.length = 1 ∧ Q (.int (x.cps.getD 0 0 : Nat)) H
theorem cr_ord : CallR X (.builtin "ord") rOrdU := call_ord
theorem c_ord {c : Nat} (q : Q (.int c) H) : rOrdU [.str ⟨#[c]⟩] H Q := ⟨_, rfl, rfl, q⟩
def rMax2U : List V → Hp → VK → Prop := fun xs H Q => ∃ i j, xs = [.int i, .int j] ∧ Q (.int (if j > i then j else i)) H
def rMin2U : List V → Hp → VK → Prop := fun xs H Q => ∃ i j, xs = [.int i, .int j] ∧ Q (.int (if j < i then j else i)) H
theorem cr_max2 (hc : X.calm = true) : CallR X (.builtin "max") rMax2U := call_max2 hc
theorem cr_min2 (hc : X.calm = true) : CallR X (.builtin "min") rMin2U := call_min2 hc
theorem c_max2 (q : Q (.int (max i j)) H) : rMax2U [.int i, .int j] H Q := ⟨i, j, rfl, by
  have e : (if j > i then j else i) = max i j := by split <;> omega
  rw [e]; exact q⟩
theorem c_min2 (q : Q (.int (min i j)) H) : rMin2U [.int i, .int j] H Q := ⟨i, j, rfl, by
  have e : (if j < i then j else i) = min i j := by split <;> omega
  rw [e]; exact q⟩
def rListU (K : PySem.W.Frag) : List V → Hp → VK → Prop := fun xs H Q => ∃ p ys, xs = [.ref p] ∧ (SqL K H p ys ∨ SqT K H p ys) ∧ ∀ l, H l = none → Q (.ref l) (upd H l (.lst ys))
theorem cr_list {K : PySem.W.Frag} (hK : X.K = K := by rfl) : CallR X (.type "list") (rListU K) := hK ▸ call_list_of
theorem c_listL (h : SqL K H a xs) (q : ∀ l H', New H l (.lst xs) H' → Q (.ref l) H') : rListU K [.ref a] H Q := ⟨a, xs, rfl, .inl h, fun p hp => q p _ ⟨hp, rfl⟩⟩
theorem c_listT (h : SqT K H a xs) (q : ∀ l H', New H l (.lst xs) H' → Q (.ref l) H') : rListU K [.ref a] H Q := ⟨a, xs, rfl, .inr h, fun p hp => q p _ ⟨hp, rfl⟩⟩
def rTupU (K : PySem.W.Frag) : List V → Hp → VK → Prop := fun xs H Q => ∃ p ys, xs = [.ref p] ∧ ((SqL K H p ys ∧ ∀ l, H l = none → Q (.ref l) (upd H l (.tup ys))) ∨ (SqT K H p ys ∧ Q (.ref p) H))
theorem cr_tuple {K : PySem.W.Frag} (hK : X.K = K := by rfl) : CallR X (.type "tuple") (rTupU K) := hK ▸ call_tuple_of
theorem c_tupleL (h : SqL K H a xs) (q : ∀ l H', New H l (.tup xs) H' → Q (.ref l) H') : rTupU K [.ref a] H Q := ⟨a, xs, rfl, .inl ⟨h, fun p hp => q p _ ⟨hp, rfl⟩⟩⟩
theorem c_tupleT (h : SqT K H a xs) (q : Q (.ref a) H) : rTupU K [.ref a] H Q := ⟨a, xs, rfl, .inr ⟨h, q⟩⟩
theorem c_anyI {ns : List Int} (h : SqL K H a (ns.map V.int)) (q : Q (.bl (ns.any (· != 0))) H) : rAnyU K [.ref a] H Q := .inr ⟨a, ns, rfl, h, q⟩
theorem c_anyB {bs : List Bool} (h : SqL K H a (bs.map V.bl)) (q : Q (.bl (bs.any id)) H) : rAnyU K [.ref a] H Q := .inl ⟨a, bs, rfl, h, q⟩
def rAllU (K : PySem.W.Frag) : List V → Hp → VK → Prop := rAll K
theorem cr_allU {K : PySem.W.Frag} (hc : X.calm = true) (hK : X.K = K := by rfl) : CallR X (.builtin "all") (rAllU K) := hK ▸ cr_all hc
theorem c_allB {bs : List Bool} (h : SqL K H a (bs.map V.bl)) (q : Q (.bl (bs.all id)) H) : rAllU K [.ref a] H Q := ⟨a, bs, rfl, h, q⟩
end
section
variable {X : Cx} {K : PySem.W.Frag} {σ : St} {H : Hp} {Q : VK} {a : Addr} {s z : Str} {ys : List Str} {to te : TE} {o e : Expr}
/-- a text's method of one argument -/
def tM1U (r : V → List V → Hp → VK → Prop) (to te : TE) : TE := fun σ H Q => to σ H fun x H1 => (∃ a, x = .str a) ∧ te σ H1 fun y H2 => r x [y] H2 Q
theorem c_m1 {r : V → List V → Hp → VK → Prop} (h : to σ H fun x H1 => (∃ a, x = .str a) ∧ te σ H1 fun y H2 => r x [y] H2 Q) : tM1 r to te σ H Q := h
theorem c_isStr {A : Prop} (h : A) : (∃ b, V.str s = V.str b) ∧ A := ⟨⟨s, rfl⟩, h⟩
def rJoin (K : PySem.W.Frag) : V → List V → Hp → VK → Prop := fun x xs H Q => ∃ a p, ∃ ys : List Str, x = .str a ∧ xs = [.ref p] ∧ (SqL K H p (ys.map V.str) ∨ SqT K H p (ys.map V.str)) ∧
  (ys.map (·.length)).sum + ys.length * a.length ≤ 16777216 ∧ Q (.str (Txt.join a ys)) H
theorem pe_joinU {K : PySem.W.Frag} {apos pos : Pos} (ho : PE X o to) (he : PE X e te) (hK : X.K = K := by rfl) (hs : starEach [e] X.env = [(false, eval e X.env)] := by rfl) (hbase : attributeBase o "join" X.env (eval o X.env) = eval o X.env := by rfl) (hline : (apos.endLine == pos.line) = true := by rfl) :
    PE X (.Call (.Attribute o "join" apos) [e] [] pos) (tM1 (rJoin K) to te) := hK ▸ pe_join ho he hs hbase hline
theorem c_join (h : SqL K H a (ys.map V.str)) (hl : (ys.map (·.length)).sum + ys.length * s.length ≤ 16777216) (q : Q (.str (Txt.join s ys)) H) : rJoin K (.str s) [.ref a] H Q := ⟨s, a, ys, rfl, rfl, .inl h, hl, q⟩
end

/-! ## rules that name the written part -/
section
variable {X : Cx} {K : PySem.W.Frag} {e o : Expr} {es : List Expr} {te to ta : TE} {tr : TA} {tg : Expr} {x : Str}
theorem pt_tru {a : Expr} (ha : PE X a ta) (hK : X.K = K := by rfl) (he : ∀ whole, isTrue a X.env whole = (do let v ← whole; standAt a.pos; holding [v] (truthy v)) := by intro _; rfl) :
    PT X a (fun σ H Q => ta σ H fun x H' => ∃ k, TruV K x H' k ∧ Q k H') := hK ▸ pt_truth ha he
theorem pi_listU (hl : PE X e te) (hK : X.K = K := by rfl) : PI X tg e (iList K te) := hK ▸ pi_list hl
theorem pi_tupU (hl : PE X e te) (hK : X.K = K := by rfl) : PI X tg e (iTup K te) := hK ▸ pi_tup hl
theorem pg_tupU {pos : Pos} {k n : Nat} {t : TGs} (hc : X.calm = true) (h : PGs X es t) (hK : X.K = K := by rfl) (hn : (assignEach es X.env).length = n := by rfl) (hst : (assignEach es X.env).findIdx? (·.1) = none := by rfl) : PG X (.Tuple es k pos) (gTup K n t) := hK ▸ pg_tup hc h hn hst
theorem pg_lstU {pos : Pos} {k n : Nat} {t : TGs} (hc : X.calm = true) (h : PGs X es t) (hK : X.K = K := by rfl) (hn : (assignEach es X.env).length = n := by rfl) (hst : (assignEach es X.env).findIdx? (·.1) = none := by rfl) : PG X (.Tuple es k pos) (gLst K n t) := hK ▸ pg_lst hc h hn hst
theorem pe_appendU {apos cpos : Pos} (ho : PE X o to) (he : PE X e te) (hK : X.K = K := by rfl) (hbase : attributeBase o "append" X.env (eval o X.env) = eval o X.env := by rfl)
    (hfew : ((backTo cpos (starEach [e] X.env)).all (fun x => !x.1) && (backToKw cpos (keywordEach [] X.env)).all (fun x => x.1.isSome)
      && decide (([e] : List Expr).length + ([] : List Keyword).length + (if ([] : List Keyword).isEmpty then 0 else 1) < 30)) = true := by rfl)
    (hline : (apos.endLine == cpos.line) = true := by rfl) (hs : starEach [e] X.env = (false, eval e X.env) :: starEach [] X.env := by rfl) (hplain : (backTo cpos (starEach [] X.env)).any (·.1) = false := by rfl) :
    PE X (.Call (.Attribute o "append" apos) [e] [] cpos) (tBM K "list" rAppend to (tCons te tNil)) :=
  hK ▸ pe_bm PySem.F.plainAttrs_list PySem.F.slot_list_append PySem.F.type_list_append mt_append ho (pa_cons he pa_nil hs) hbase hfew hline hs hplain
theorem pe_extendU {apos cpos : Pos} (ho : PE X o to) (he : PE X e te) (hK : X.K = K := by rfl) (hbase : attributeBase o "extend" X.env (eval o X.env) = eval o X.env := by rfl)
    (hfew : ((backTo cpos (starEach [e] X.env)).all (fun x => !x.1) && (backToKw cpos (keywordEach [] X.env)).all (fun x => x.1.isSome)
      && decide (([e] : List Expr).length + ([] : List Keyword).length + (if ([] : List Keyword).isEmpty then 0 else 1) < 30)) = true := by rfl)
    (hline : (apos.endLine == cpos.line) = true := by rfl) (hs : starEach [e] X.env = (false, eval e X.env) :: starEach [] X.env := by rfl) (hplain : (backTo cpos (starEach [] X.env)).any (·.1) = false := by rfl) :
    PE X (.Call (.Attribute o "extend" apos) [e] [] cpos) (tBM K "list" rExtend to (tCons te tNil)) :=
  hK ▸ pe_bm PySem.F.plainAttrs_list PySem.F.slot_list_extend PySem.F.type_list_extend mt_extend ho (pa_cons he pa_nil hs) hbase hfew hline hs hplain
end

/-! ## what is kept of a heap -/
/-- all that was tracked is kept, but for the objects at ms -/
def Kp (ms : List Addr) (H H' : Hp) : Prop := ∀ a o, a ∉ ms → H a = some o → H' a = some o
section
variable {K : PySem.W.Frag} {H H1 H2 : Hp} {a b p : Addr} {o u : HO} {ms ns : List Addr} {xs : List V}
theorem Kp.refl : Kp ms H H := fun _ _ _ h => h
theorem Kp.trans (e : Kp ms H H1) (f : Kp ms H1 H2) : Kp ms H H2 := fun a o n h => f a o n (e a o n h)
theorem Kp.mono (e : Kp [] H H1) : Kp ms H H1 := fun a o _ h => e a o (by simp) h
theorem Kp.new (hp : H p = none) : Kp ms H (upd H p o) := fun a u _ h => by rw [upd_ne (ne_of_none h hp)]; exact h
theorem Kp.mut (hp : p ∈ ms) : Kp ms H (upd H p o) := fun a u n h => by rw [upd_ne (fun e : a = p => n (by rw [e]; exact hp))]; exact h
theorem Kp.at0 (e : Kp [] H H1) (h : H a = some o) : H1 a = some o := e a o (by simp) h
theorem Kp.at1 (e : Kp [b] H H1) (n : a ≠ b) (h : H a = some o) : H1 a = some o := e a o (by simpa using n) h
/-- an object that H did not know may change -/
theorem Kp.fresh_mut (e : Kp ms H H1) (hp : H p = none) : Kp ms H (upd H1 p o) := fun a u n h => by rw [upd_ne (ne_of_none h hp)]; exact e a u n h
theorem Kp.drop_fresh (e : Kp (p :: ms) H H1) (hp : H p = none) : Kp ms H H1 := fun a u n h => e a u (by simp only [List.mem_cons, not_or]; exact ⟨ne_of_none h hp, n⟩) h
theorem upd_new (hp : H p = none) (h : H a = some o) : upd H p u a = some o := by rw [upd_ne (ne_of_none h hp)]; exact h
theorem upd_other (n : a ≠ p) (h : H a = some o) : upd H p u a = some o := by rw [upd_ne n]; exact h
theorem upd_free (n : a ≠ p) (h : H a = none) : upd H p u a = none := by rw [upd_ne n]; exact h
theorem free0 (e : Kp [] H H1) (h : H1 a = none) : H a = none := by
  cases q : H a with
  | none => rfl
  | some o => rw [e.at0 q] at h; cases h
theorem free1 (e : Kp [b] H H1) (n : a ≠ b) (h : H1 a = none) : H a = none := by
  cases q : H a with
  | none => rfl
  | some o => rw [e.at1 n q] at h; cases h
theorem free_upd (h : upd H p u a = none) : H a = none := by
  by_cases e : a = p
  · subst e; rw [upd_same] at h; cases h
  · rw [upd_ne e] at h; exact h
theorem rd_at (e : ∀ o, H a = some o → H1 a = some o) (h : Rd H a u) : Rd H1 a u := by
  rcases h with h | ⟨o, h⟩
  · exact .inl (e _ h)
  · exact .inr ⟨o, e _ h⟩
theorem SqL.at (e : ∀ o, H a = some o → H1 a = some o) (h : SqL K H a xs) : SqL K H1 a xs := h.elim (fun h => .inl (rd_at e h)) .inr
theorem SqT.at (e : ∀ o, H a = some o → H1 a = some o) (h : SqT K H a xs) : SqT K H1 a xs := h.elim (fun h => .inl (rd_at e h)) .inr
theorem SqL.kp (e : Kp [] H H1) (h : SqL K H a xs) : SqL K H1 a xs := SqL.at (fun _ => e.at0) h
theorem SqT.kp (e : Kp [] H H1) (h : SqT K H a xs) : SqT K H1 a xs := SqT.at (fun _ => e.at0) h
theorem SqL.kp1 (e : Kp [b] H H1) (n : a ≠ b) (h : SqL K H a xs) : SqL K H1 a xs := SqL.at (fun _ => e.at1 n) h
theorem SqT.kp1 (e : Kp [b] H H1) (n : a ≠ b) (h : SqT K H a xs) : SqT K H1 a xs := SqT.at (fun _ => e.at1 n) h
theorem SqL.new (hp : H p = none) (h : SqL K H a xs) : SqL K (upd H p u) a xs := SqL.at (fun _ => upd_new hp) h
theorem SqT.new (hp : H p = none) (h : SqT K H a xs) : SqT K (upd H p u) a xs := SqT.at (fun _ => upd_new hp) h
theorem SqL.other (n : a ≠ p) (h : SqL K H a xs) : SqL K (upd H p u) a xs := SqL.at (fun _ => upd_other n) h
theorem SqT.other (n : a ≠ p) (h : SqT K H a xs) : SqT K (upd H p u) a xs := SqT.at (fun _ => upd_other n) h
theorem New.kp (N : New H p o H1) : Kp ms H H1 := by rw [N.eq]; exact Kp.new N.fr
theorem New.at_ (N : New H p o H1) : H1 p = some o := by rw [N.eq]; exact upd_same
theorem New.keep (N : New H p o H1) (h : H a = some u) : H1 a = some u := by rw [N.eq]; exact upd_new N.fr h
theorem New.free (N : New H p o H1) (h : H1 a = none) : H a = none := by rw [N.eq] at h; exact free_upd h
theorem New.ne (N : New H p o H1) (h : H a = some u) : p ≠ a := (ne_of_none h N.fr).symm
theorem New.sqL (N : New H p o H1) (h : SqL K H a xs) : SqL K H1 a xs := SqL.kp N.kp h
theorem New.sqT (N : New H p o H1) (h : SqT K H a xs) : SqT K H1 a xs := SqT.kp N.kp h
theorem ne_of2 (h : H a = some o) (h' : H b = none) : a ≠ b := ne_of_none h h'
end

/-! ## items -/
theorem atI_at {xs : List V} {i : Int} (h0 : 0 ≤ i) (h1 : i < xs.length) : atI xs i = some (xs.getD i.toNat .non) := by
  have e : i = ((i.toNat : Nat) : Int) := by omega
  have h : xs[i.toNat]? = some (xs.getD i.toNat .non) := by
    rw [List.getD_eq_getElem?_getD, List.getElem?_eq_getElem (by omega)]
    rfl
  exact e ▸ atI_nat h
theorem atI_ints {ns : List Int} {i : Int} (h0 : 0 ≤ i) (h1 : i < ns.length) : atI (ns.map V.int) i = some (.int (ns.getD i.toNat 0)) := by
  rw [atI_at h0 (by rw [List.length_map]; exact h1)]
  congr 1
  rw [List.getD_eq_getElem?_getD, List.getD_eq_getElem?_getD, List.getElem?_map, List.getElem?_eq_getElem (by omega)]
  rfl
theorem atI_strs {ns : List Str} {i : Int} (h0 : 0 ≤ i) (h1 : i < ns.length) : atI (ns.map V.str) i = some (.str (ns.getD i.toNat Str.empty)) := by
  rw [atI_at h0 (by rw [List.length_map]; exact h1)]
  congr 1
  rw [List.getD_eq_getElem?_getD, List.getD_eq_getElem?_getD, List.getElem?_map, List.getElem?_eq_getElem (by omega)]
  rfl
theorem atI_codes {z : Str} {i : Int} (h0 : 0 ≤ i) (h1 : i < z.length) : atI z.cps.toList i = some (z.cps.getD i.toNat 0) := by
  have e : i = ((i.toNat : Nat) : Int) := by omega
  have hl : i.toNat < z.cps.size := by have : z.length = z.cps.size := rfl; omega
  unfold atI
  have q : ixN z.cps.toList.length i = some i.toNat := by
    unfold ixN
    rw [if_pos h0, if_pos (by rw [Array.length_toList]; omega)]
  rw [q]
  show z.cps.toList[i.toNat]? = _
  rw [Array.getElem?_toList, Array.getElem?_eq_getElem hl, Array.getD, dif_pos hl]
  rfl

/-! ## the law's box: its digits at d, its place -/
structure Bx (H : Hp) (b d : Addr) : Prop where
  ex : ∃ (at_ : Int) (ds : List Int), H b = some (.lst [.ref d, .int at_]) ∧ H d = some (.lst (ds.map V.int)) ∧ 0 ≤ at_
section
variable {H H1 : Hp} {b d p : Addr} {o : HO}
theorem Bx.ne (h : Bx H b d) : d ≠ b := by
  obtain ⟨at_, ds, h1, h2, _⟩ := h.ex
  intro e
  subst e
  rw [h1] at h2
  cases ds with
  | nil => cases h2
  | cons n r => simp at h2
theorem Bx.kp0 (h : Bx H b d) (e : Kp [] H H1) : Bx H1 b d := by
  obtain ⟨at_, ds, h1, h2, h3⟩ := h.ex
  exact ⟨at_, ds, e.at0 h1, e.at0 h2, h3⟩
theorem Bx.new (h : Bx H b d) (hp : H p = none) : Bx (upd H p o) b d := h.kp0 (Kp.new hp)
theorem Bx.other (h : Bx H b d) (n1 : p ≠ b) (n2 : p ≠ d) : Bx (upd H p o) b d := by
  obtain ⟨at_, ds, h1, h2, h3⟩ := h.ex
  exact ⟨at_, ds, upd_other (Ne.symm n1) h1, upd_other (Ne.symm n2) h2, h3⟩
theorem Bx.nw (h : Bx H b d) (N : New H p o H1) : Bx H1 b d := by rw [N.eq]; exact h.new N.fr
theorem Bx.ne_new (h : Bx H b d) (hp : H p = none) : p ≠ b ∧ p ≠ d := by
  obtain ⟨at_, ds, h1, h2, h3⟩ := h.ex
  exact ⟨fun e => ne_of_none h1 hp e.symm, fun e => ne_of_none h2 hp e.symm⟩
end
end Sa

namespace Sa
open PySem L2

/-! ## loops -/
section
variable {K : PySem.W.Frag} {σ : St} {H : Hp} {D : Ends} {wi : TI} {g : TG} {tb : TS} {ta : TA} {tl te : TE} {tt : TT} {R : It → Hp → Prop} {a : Addr} {xs : List V} {lo hi : Int} {n : Nat} {Q : VK} {vs : List Nat} {z : Str}
def ForJ (J : It) (g : TG) (tb : TS) (D : Ends) (σ : St) (H1 : Hp) : Prop := ∃ W : Nat → Nat → St → Hp → Prop, (∃ m, W 0 m σ H1) ∧ ∀ i m σ H, W i m σ H →
  (J.stop i H ∧ D.nx σ H) ∨ (J.go i H ∧ ∃ N : St → Hp → Prop, (∀ σ' H', N σ' H' → ∃ m', m' < m ∧ W (i + 1) m' σ' H') ∧ ∀ x H', J.yld i H x H' → g x σ H' fun σ2 H2 => tb { D with nx := N, ct := N, bk := D.nx } σ2 H2)
def LcJ (J : It) (g : TG) (tt : TT) (te : TE) (vs : List Nat) (σ : St) (H1 : Hp) (Q : VK) : Prop := ∀ D, H1 D = none → ∃ W : Nat → Nat → Hp → Prop, (∃ m, W 0 m (upd H1 D (.lst []))) ∧ ∀ i m H, W i m H →
  (J.stop i H ∧ Q (.ref D) H) ∨ (J.go i H ∧ ∃ Nx : Hp → Prop, (∀ H', Nx H' → ∃ m', m' < m ∧ W (i + 1) m' H') ∧ ∀ x H', J.yld i H x H' → g x (wipe σ vs) H' fun σ2 H2 => wipe σ2 vs = wipe σ vs ∧ tt σ2 H2 fun b H3 =>
    if b = true then te σ2 H3 fun y H4 => ∃ acc, H4 D = some (.lst acc) ∧ acc.length < sizeLine ∧ Nx (upd H4 D (.lst (acc ++ [y]))) else Nx H3)
theorem c_for (h : wi σ H fun J H1 => ForJ J g tb D σ H1) : tFor wi g tb D σ H := h
theorem c_lc (h : wi σ H fun J H1 => LcJ J g tt te vs σ H1 Q) : tLc wi g tt te vs σ H Q := h
theorem c_rng1 (h : ta σ H fun vs H1 => ∃ j : Int, vs = [.int j] ∧ -(2 ^ 62) ≤ j ∧ j < 2 ^ 62 ∧ R (Itr 0 j.toNat) H1) : iRng1 ta σ H R := h
theorem c_rng2 (h : ta σ H fun vs H1 => ∃ i j : Int, vs = [.int i, .int j] ∧ (-(2 ^ 62) ≤ i ∧ i < 2 ^ 62 ∧ -(2 ^ 62) ≤ j ∧ j < 2 ^ 62) ∧ R (Itr i (j - i).toNat) H1) : iRng2 ta σ H R := h
theorem c_r1F (h1 : -4611686018427387904 ≤ hi ∧ hi < 4611686018427387904) (h : ForJ (Itr 0 hi.toNat) g tb D σ H) : ∃ j : Int, [V.int hi] = [.int j] ∧ -(2 ^ 62) ≤ j ∧ j < 2 ^ 62 ∧ ForJ (Itr 0 j.toNat) g tb D σ H := ⟨hi, rfl, by omega, by omega, h⟩
theorem c_r2F (h1 : -4611686018427387904 ≤ hi ∧ hi < 4611686018427387904 ∧ -4611686018427387904 ≤ lo ∧ lo < 4611686018427387904) (h : ForJ (Itr lo (hi - lo).toNat) g tb D σ H) : ∃ i j : Int, [V.int lo, V.int hi] = [.int i, .int j] ∧ (-(2 ^ 62) ≤ i ∧ i < 2 ^ 62 ∧ -(2 ^ 62) ≤ j ∧ j < 2 ^ 62) ∧ ForJ (Itr i (j - i).toNat) g tb D σ H :=
  ⟨lo, hi, rfl, by omega, h⟩
theorem c_itLF (h : SqL K H a xs) (q : ForJ (Itl K a) g tb D σ H) : ∃ b, V.ref a = .ref b ∧ (∃ xs, SqL K H b xs) ∧ ForJ (Itl K b) g tb D σ H := ⟨a, rfl, ⟨xs, h⟩, q⟩
theorem c_itTF (h : SqT K H a xs) (q : ForJ (Itt K a) g tb D σ H) : ∃ b, V.ref a = .ref b ∧ (∃ xs, SqT K H b xs) ∧ ForJ (Itt K b) g tb D σ H := ⟨a, rfl, ⟨xs, h⟩, q⟩
theorem c_itSF (q : ForJ (Its z) g tb D σ H) : ∃ x, V.str z = .str x ∧ ForJ (Its x) g tb D σ H := ⟨z, rfl, q⟩
theorem c_r1C (h1 : -4611686018427387904 ≤ hi ∧ hi < 4611686018427387904) (h : LcJ (Itr 0 hi.toNat) g tt te vs σ H Q) : ∃ j : Int, [V.int hi] = [.int j] ∧ -(2 ^ 62) ≤ j ∧ j < 2 ^ 62 ∧ LcJ (Itr 0 j.toNat) g tt te vs σ H Q := ⟨hi, rfl, by omega, by omega, h⟩
theorem c_r2C (h1 : -4611686018427387904 ≤ hi ∧ hi < 4611686018427387904 ∧ -4611686018427387904 ≤ lo ∧ lo < 4611686018427387904) (h : LcJ (Itr lo (hi - lo).toNat) g tt te vs σ H Q) : ∃ i j : Int, [V.int lo, V.int hi] = [.int i, .int j] ∧ (-(2 ^ 62) ≤ i ∧ i < 2 ^ 62 ∧ -(2 ^ 62) ≤ j ∧ j < 2 ^ 62) ∧ LcJ (Itr i (j - i).toNat) g tt te vs σ H Q :=
  ⟨lo, hi, rfl, by omega, h⟩
theorem c_itLC (h : SqL K H a xs) (q : LcJ (Itl K a) g tt te vs σ H Q) : ∃ b, V.ref a = .ref b ∧ (∃ xs, SqL K H b xs) ∧ LcJ (Itl K b) g tt te vs σ H Q := ⟨a, rfl, ⟨xs, h⟩, q⟩
theorem c_itTC (h : SqT K H a xs) (q : LcJ (Itt K a) g tt te vs σ H Q) : ∃ b, V.ref a = .ref b ∧ (∃ xs, SqT K H b xs) ∧ LcJ (Itt K b) g tt te vs σ H Q := ⟨a, rfl, ⟨xs, h⟩, q⟩
theorem c_itSC (q : LcJ (Its z) g tt te vs σ H Q) : ∃ x, V.str z = .str x ∧ LcJ (Its x) g tt te vs σ H Q := ⟨z, rfl, q⟩
theorem c_iList (h : tl σ H fun x H1 => ∃ a, x = .ref a ∧ (∃ xs, SqL K H1 a xs) ∧ R (Itl K a) H1) : iList K tl σ H R := h
theorem c_iTup (h : tl σ H fun x H1 => ∃ a, x = .ref a ∧ (∃ xs, SqT K H1 a xs) ∧ R (Itt K a) H1) : iTup K tl σ H R := h
theorem c_iStr (h : tl σ H fun v H1 => ∃ x, v = .str x ∧ R (Its x) H1) : iStr tl σ H R := h
/-- for .. in range: the word Pv by the turn -/
theorem forR (Pv : Nat → St → Hp → Prop) (h0 : Pv 0 σ H) (hs : ∀ i σ H, i < n → Pv i σ H → g (.int (lo + i)) σ H fun σ2 H2 => tb { D with nx := Pv (i + 1), ct := Pv (i + 1), bk := D.nx } σ2 H2) (hd : ∀ σ H, Pv n σ H → D.nx σ H) : ForJ (Itr lo n) g tb D σ H := for_range Pv h0 hs hd
theorem forL (xs : List V) (Pv : Nat → St → Hp → Prop) (h0 : Pv 0 σ H) (hl : ∀ i σ H, i ≤ xs.length → Pv i σ H → SqL K H a xs)
    (hs : ∀ i x σ H, xs[i]? = some x → Pv i σ H → g x σ H fun σ2 H2 => tb { D with nx := Pv (i + 1), ct := Pv (i + 1), bk := D.nx } σ2 H2) (hd : ∀ σ H, Pv xs.length σ H → D.nx σ H) : ForJ (Itl K a) g tb D σ H := for_list Pv h0 hl hs hd
theorem forT (xs : List V) (Pv : Nat → St → Hp → Prop) (h0 : Pv 0 σ H) (hl : ∀ i σ H, i ≤ xs.length → Pv i σ H → SqT K H a xs)
    (hs : ∀ i x σ H, xs[i]? = some x → Pv i σ H → g x σ H fun σ2 H2 => tb { D with nx := Pv (i + 1), ct := Pv (i + 1), bk := D.nx } σ2 H2) (hd : ∀ σ H, Pv xs.length σ H → D.nx σ H) : ForJ (Itt K a) g tb D σ H := for_tup Pv h0 hl hs hd
theorem forS (Pv : Nat → St → Hp → Prop) (h0 : Pv 0 σ H)
    (hs : ∀ (i : Nat) (c : Nat) σ H, z.cps.toList[i]? = some c → Pv i σ H → g (.str ⟨#[c]⟩) σ H fun σ2 H2 => tb { D with nx := Pv (i + 1), ct := Pv (i + 1), bk := D.nx } σ2 H2) (hd : ∀ σ H, Pv z.cps.toList.length σ H → D.nx σ H) : ForJ (Its z) g tb D σ H := by
  refine ⟨fun i m σ H => m = z.cps.size - i ∧ i ≤ z.cps.size ∧ Pv i σ H, ⟨_, rfl, Nat.zero_le _, h0⟩, ?_⟩
  rintro i m σ H ⟨rfl, hi, p⟩
  by_cases hlt : i < z.cps.size
  · refine .inr ⟨hlt, Pv (i + 1), fun σ' H' p' => ⟨_, by omega, rfl, hlt, p'⟩, fun x H' y => ?_⟩
    obtain ⟨e, c, hc, e2⟩ := y
    subst e e2
    exact hs i c σ _ (by rw [Array.getElem?_toList]; exact hc) p
  · have e : i = z.cps.toList.length := by rw [Array.length_toList]; omega
    subst e
    exact .inl ⟨by rw [Array.length_toList] at hlt; exact Nat.le_of_not_lt hlt, hd σ H p⟩

/-! comprehensions: the word Pv by the new list's place, the turn, what the list holds, the heap -/
def LcN (Pv : Addr → Nat → List V → Hp → Prop) (Dl : Addr) (i : Nat) (H : Hp) : Prop := ∃ acc, H Dl = some (.lst acc) ∧ acc.length ≤ i ∧ Pv Dl i acc H
abbrev LcT (g : TG) (tt : TT) (te : TE) (vs : List Nat) (σ : St) (Pv : Addr → Nat → List V → Hp → Prop) (Dl : Addr) (i : Nat) (x : V) (H' : Hp) : Prop :=
  g x (wipe σ vs) H' fun σ2 H2 => wipe σ2 vs = wipe σ vs ∧ tt σ2 H2 fun b H3 =>
    if b = true then te σ2 H3 fun y H4 => ∃ acc, H4 Dl = some (.lst acc) ∧ acc.length < sizeLine ∧ LcN Pv Dl (i + 1) (upd H4 Dl (.lst (acc ++ [y]))) else LcN Pv Dl (i + 1) H3
theorem lc_push {Pv : Addr → Nat → List V → Hp → Prop} {Dl : Addr} {i : Nat} {H4 : Hp} {acc : List V} {y : V} (h : H4 Dl = some (.lst acc)) (hl : acc.length ≤ i) (hi : i < 16777216) (p : Pv Dl (i + 1) (acc ++ [y]) (upd H4 Dl (.lst (acc ++ [y])))) :
    ∃ acc, H4 Dl = some (.lst acc) ∧ acc.length < sizeLine ∧ LcN Pv Dl (i + 1) (upd H4 Dl (.lst (acc ++ [y]))) :=
  ⟨acc, h, by rw [sizeLine_eq]; omega, acc ++ [y], upd_same, by rw [List.length_append, List.length_singleton]; omega, p⟩
theorem lc_skip {Pv : Addr → Nat → List V → Hp → Prop} {Dl : Addr} {i : Nat} {H3 : Hp} {acc : List V} (h : H3 Dl = some (.lst acc)) (hl : acc.length ≤ i) (p : Pv Dl (i + 1) acc H3) : LcN Pv Dl (i + 1) H3 := ⟨acc, h, by omega, p⟩
theorem lcR (Pv : Addr → Nat → List V → Hp → Prop) (h0 : ∀ Dl, H Dl = none → Pv Dl 0 [] (upd H Dl (.lst [])))
    (hs : ∀ Dl i acc H', H Dl = none → i < n → H' Dl = some (.lst acc) → acc.length ≤ i → Pv Dl i acc H' → LcT g tt te vs σ Pv Dl i (.int (lo + i)) H')
    (hd : ∀ Dl acc H', H Dl = none → H' Dl = some (.lst acc) → acc.length ≤ n → Pv Dl n acc H' → Q (.ref Dl) H') : LcJ (Itr lo n) g tt te vs σ H Q := fun Dl hD =>
  lc_range (LcN Pv Dl) ⟨[], upd_same, Nat.zero_le _, h0 Dl hD⟩ (fun i H' hi ⟨acc, h1, h2, h3⟩ => hs Dl i acc H' hD hi h1 h2 h3) fun H' ⟨acc, h1, h2, h3⟩ => hd Dl acc H' hD h1 h2 h3
theorem lcL (xs : List V) (Pv : Addr → Nat → List V → Hp → Prop) (h0 : ∀ Dl, H Dl = none → Pv Dl 0 [] (upd H Dl (.lst []))) (hl : ∀ Dl i acc H', H Dl = none → Pv Dl i acc H' → SqL K H' a xs)
    (hs : ∀ Dl i x acc H', H Dl = none → xs[i]? = some x → H' Dl = some (.lst acc) → acc.length ≤ i → Pv Dl i acc H' → LcT g tt te vs σ Pv Dl i x H')
    (hd : ∀ Dl acc H', H Dl = none → H' Dl = some (.lst acc) → acc.length ≤ xs.length → Pv Dl xs.length acc H' → Q (.ref Dl) H') : LcJ (Itl K a) g tt te vs σ H Q := fun Dl hD =>
  lc_list (xs := xs) (LcN Pv Dl) ⟨[], upd_same, Nat.zero_le _, h0 Dl hD⟩ (fun i H' _ ⟨acc, _, _, h3⟩ => hl Dl i acc H' hD h3) (fun i x H' hi ⟨acc, h1, h2, h3⟩ => hs Dl i x acc H' hD hi h1 h2 h3) fun H' ⟨acc, h1, h2, h3⟩ => hd Dl acc H' hD h1 h2 h3
theorem lcT (xs : List V) (Pv : Addr → Nat → List V → Hp → Prop) (h0 : ∀ Dl, H Dl = none → Pv Dl 0 [] (upd H Dl (.lst []))) (hl : ∀ Dl i acc H', H Dl = none → Pv Dl i acc H' → SqT K H' a xs)
    (hs : ∀ Dl i x acc H', H Dl = none → xs[i]? = some x → H' Dl = some (.lst acc) → acc.length ≤ i → Pv Dl i acc H' → LcT g tt te vs σ Pv Dl i x H')
    (hd : ∀ Dl acc H', H Dl = none → H' Dl = some (.lst acc) → acc.length ≤ xs.length → Pv Dl xs.length acc H' → Q (.ref Dl) H') : LcJ (Itt K a) g tt te vs σ H Q := fun Dl hD =>
  lc_tup (xs := xs) (LcN Pv Dl) ⟨[], upd_same, Nat.zero_le _, h0 Dl hD⟩ (fun i H' _ ⟨acc, _, _, h3⟩ => hl Dl i acc H' hD h3) (fun i x H' hi ⟨acc, h1, h2, h3⟩ => hs Dl i x acc H' hD hi h1 h2 h3) fun H' ⟨acc, h1, h2, h3⟩ => hd Dl acc H' hD h1 h2 h3
theorem c_unL {K : PySem.W.Frag} {ys : List V} {gs : TGs} {R : St → Hp → Prop} (h : SqL K H a ys) (hl : ys.length = n) (q : gs ys σ H R) : gLst K n gs (.ref a) σ H R := ⟨a, ys, rfl, h, hl, q⟩
theorem c_unT {K : PySem.W.Frag} {ys : List V} {gs : TGs} {R : St → Hp → Prop} (h : SqT K H a ys) (hl : ys.length = n) (q : gs ys σ H R) : gTup K n gs (.ref a) σ H R := ⟨a, ys, rfl, h, hl, q⟩
theorem c_gCons {v : V} {r : List V} {gs : TGs} {R : St → Hp → Prop} (q : g v σ H fun σ' H' => gs r σ' H' R) : gCons g gs (v :: r) σ H R := ⟨v, r, rfl, q⟩
theorem c_gNil {R : St → Hp → Prop} (q : R σ H) : gNil [] σ H R := ⟨rfl, q⟩
theorem c_cut {t u : TS} (Mid : St → Hp → Prop) (h1 : t { D with nx := Mid } σ H) (h2 : ∀ σ' H', Mid σ' H' → u D σ' H') : Evl.tCut t u D σ H := ⟨Mid, h1, h2⟩
theorem c_yes {R : Bool → Hp → Prop} (h : R true H) : tYes σ H R := h
end
end Sa

namespace Sa
open PySem L2

/-! ## texts by their codes -/
def txt (cs : List Nat) : Str := ⟨cs.toArray⟩
theorem txt_len (cs : List Nat) : (txt cs).length = cs.length := by show cs.toArray.size = _; simp
theorem txt_cps (cs : List Nat) : (txt cs).cps.toList = cs := by show cs.toArray.toList = _; simp
theorem txt_of (s : Str) : s = txt s.cps.toList := by cases s; simp [txt]
theorem txt_app (cs ds : List Nat) : txt cs ++ txt ds = txt (cs ++ ds) := by
  show Str.append _ _ = _
  simp [Str.append, txt]
theorem txt_inj {cs ds : List Nat} : txt cs = txt ds ↔ cs = ds := by
  constructor
  · intro h
    have e := congrArg (fun s : Str => s.cps.toList) h
    simpa [txt] using e
  · intro h; rw [h]
theorem txt_one (c : Nat) : (⟨#[c]⟩ : Str) = txt [c] := rfl
theorem cutS_txt (cs : List Nat) (lo hi : Option Int) : cutS (txt cs) lo hi = txt ((cs.drop (HT.sIx cs.length 0 lo)).take (HT.sIx cs.length cs.length hi - HT.sIx cs.length 0 lo)) := by
  unfold cutS
  rw [txt_len, txt_cps]
  rfl
theorem join_ones : ∀ cs : List Nat, Str.join (txt []) (cs.map fun c => txt [c]) = txt cs
  | [] => rfl
  | [c] => rfl
  | c :: d :: r => by
    have ih := join_ones (d :: r)
    show txt [c] ++ txt [] ++ Str.join (txt []) ((d :: r).map fun c => txt [c]) = txt (c :: d :: r)
    rw [ih, txt_app, txt_app]
    rfl
theorem tjoin (s : Str) (ys : List Str) : Txt.join s ys = Str.join s ys := StrLaws.glued_eq_join s ys
theorem tjoin_ones (cs : List Nat) : Txt.join (txt []) (cs.map fun c => txt [c]) = txt cs := by rw [tjoin, join_ones]
theorem sum_ones (cs : List Nat) : (((cs.map fun c => txt [c])).map (·.length)).sum = cs.length := by
  induction cs with
  | nil => rfl
  | cons c r ih =>
    simp only [List.map_cons, List.sum_cons, ih, List.length_cons, txt_len]
    simp
    omega
/-! ## slices -/
def cutL {α : Type} (xs : List α) (lo hi : Option Int) : List α := (xs.drop (HT.sIx xs.length 0 lo)).take (HT.sIx xs.length xs.length hi - HT.sIx xs.length 0 lo)
theorem cutV_eq (xs : List V) (lo hi : Option Int) : cutV xs lo hi = cutL xs lo hi := rfl
theorem cutL_map {α β : Type} (f : α → β) (xs : List α) (lo hi : Option Int) : cutL (xs.map f) lo hi = (cutL xs lo hi).map f := by
  unfold cutL
  rw [List.length_map, List.map_take, List.map_drop]
theorem cutV_ints (ns : List Int) (lo hi : Option Int) : cutV (ns.map V.int) lo hi = (cutL ns lo hi).map V.int := by rw [cutV_eq, cutL_map]
theorem sIx_of {n d : Nat} {i : Int} (h : 0 ≤ i) : HT.sIx n d (some i) = min i.toNat n := by
  obtain ⟨k, rfl⟩ := Int.eq_ofNat_of_zero_le h
  exact HT.sIx_nat n d k
theorem cutL_lt {α : Type} {xs : List α} {i j : Int} (h0 : 0 ≤ i) (h1 : i ≤ j) (h2 : j ≤ xs.length) : cutL xs (some i) (some j) = (xs.drop i.toNat).take (j.toNat - i.toNat) := by
  unfold cutL
  rw [sIx_of h0, sIx_of (by omega), Nat.min_eq_left (by omega), Nat.min_eq_left (by omega)]
theorem cutL_to {α : Type} {xs : List α} {j : Int} (h1 : 0 ≤ j) (h2 : j ≤ xs.length) : cutL xs none (some j) = xs.take j.toNat := by
  unfold cutL
  rw [sIx_of h1, Nat.min_eq_left (by omega)]
  simp [HT.sIx]
theorem cutL_from {α : Type} {xs : List α} {i : Int} (h0 : 0 ≤ i) (h1 : i ≤ xs.length) : cutL xs (some i) none = xs.drop i.toNat := by
  unfold cutL
  rw [sIx_of h0, Nat.min_eq_left (by omega)]
  show (xs.drop i.toNat).take (xs.length - i.toNat) = _
  rw [List.take_of_length_le (by rw [List.length_drop]; omega)]
/-! ## lists of whole numbers compared -/
section
variable {K : PySem.W.Frag} {H : Hp} {Q : VK} {a b : Addr} {ns ms : List Int}
theorem dpAll_ints : ∀ ns : List Int, DpAll K H (ns.map V.int) (ns.map PyData.int)
  | [] => .nil
  | n :: r => .cons (.int n) (dpAll_ints r)
theorem dp_ints (h : SqL K H a (ns.map V.int)) : Dp K H (.ref a) (.list (ns.map PyData.int)) := .lst h (dpAll_ints ns)
theorem eqvAll_ints : ∀ ns ms : List Int, PyData.eqvAll (ns.map PyData.int) (ms.map PyData.int) = decide (ns = ms)
  | [], [] => by simp [PyData.eqvAll]
  | [], _ :: _ => by simp [PyData.eqvAll]
  | _ :: _, [] => by simp [PyData.eqvAll]
  | a :: r, b :: t => by
    simp only [List.map_cons, PyData.eqvAll, PyData.eqv, eqvAll_ints r t]
    by_cases h : a = b <;> by_cases h' : r = t <;> simp [h, h']
theorem c_eqLI (ha : SqL K H a (ns.map V.int)) (hb : SqL K H b (ms.map V.int)) (q : Q (.bl (decide (ns = ms))) H) : rEqU K (.ref a) (.ref b) H Q :=
  c_eqD (dp_ints ha) (dp_ints hb) (PySem.W.ke_shaped_ints ns) (PySem.W.ke_shaped_ints ms) (by rw [PyData.eqv, eqvAll_ints]; exact q)
theorem c_neLI (ha : SqL K H a (ns.map V.int)) (hb : SqL K H b (ms.map V.int)) (q : Q (.bl (!decide (ns = ms))) H) : rNeU K (.ref a) (.ref b) H Q :=
  c_neD (dp_ints ha) (dp_ints hb) (PySem.W.ke_shaped_ints ns) (PySem.W.ke_shaped_ints ms) (by rw [PyData.eqv, eqvAll_ints]; exact q)
end
theorem map_snocI (ds : List Int) (z : Int) : ds.map V.int ++ [V.int z] = (ds ++ [z]).map V.int := by rw [List.map_append]; rfl
theorem take_succ' {α : Type} {xs : List α} {i : Nat} {x : α} (h : xs[i]? = some x) : xs.take (i + 1) = xs.take i ++ [x] := by
  rw [List.take_succ, h]; rfl
end Sa

/-! Defs whose promise is kept where no repr is under way around them (the law's defs that call repr). -/
namespace Sa
open PySem PySem.Spec PyProof.Rows L2
structure FnG (P : Program) (w : World) (K : PySem.W.Frag) (mg : Str → Option Value) (base : Heap) (CX : CXT) (k : Nat) (f : Addr) (fd : FuncData) (ps : List Str) (sp : Sp) : Prop where
  len : ∀ vs H Q E, sp vs H Q E → vs.length = ps.length
  go : ∀ (A : Around) (fs : List Env) (s : Shared) (H : Hp) (args : Args) (us : List Value) (vs : List V) (Q : VK) (E : XK),
    A.guards = some [] ∧ Room k A ∧ Env0 P w K mg base A fs s H ∧ BindsTo s fd args (ps.zip us) ∧ Vals vs us ∧ sp vs H Q E → codeAny (model P w) A (.call (.ref f) args) (CR CX fs P w H s Q E) s
theorem FnG.mono {P : Program} {w : World} {K : PySem.W.Frag} {mg : Str → Option Value} {base : Heap} {CX : CXT} {j k : Nat} {f : Addr} {fd : FuncData} {ps : List Str} {sp : Sp} (F : FnG P w K mg base CX j f fd ps sp) (h : j ≤ k) : FnG P w K mg base CX k f fd ps sp :=
  ⟨F.len, fun A fs s H args us vs Q E z => F.go A fs s H args us vs Q E ⟨z.1, z.2.1.mono h, z.2.2⟩⟩
section
variable {P : Program} {w : World} {K : PySem.W.Frag} {mg : Str → Option Value} {base : Heap} {CX : CXT} {k : Nat} {f : Addr} {x : Str} {st : Stmt} {N ps : List Str} {sp : Sp}
/-- what such a body owes -/
def BodyG (P : Program) (w : World) (K : PySem.W.Frag) (mg : Str → Option Value) (base : Heap) (x : Str) (st : Stmt) (N : List Str) (k : Nat) (sp : Sp) : Prop :=
  ∀ (cdv : Value) (A : Around) (fs : List Env) (s : Shared) (H : Hp) (vs : List V) (Q : VK) (E : XK), sp vs H Q E → let X : Cx := (cxOf CX0 P w K mg base N x (defScope st) (He.ga K x) cdv A fs s H E).nox
    Room k X.A → X.A.guards = some [] → ∃ t, PSs X (defBody st) t ∧ t { nx := fun _ H' => Q .non H', rt := Q } (start N vs) H
theorem fnG_of {fd : FuncData} (F : FunD K x x (defArgs st) (defBody st) (defScope st) [] [] (He.ga K x) fd) (S : FnScope N ps (defScope st)) (len : ∀ vs H Q E, sp vs H Q E → vs.length = ps.length) (body : BodyG P w K mg base x st N k sp) :
    FnG P w K mg base CX0 (k + 1) (He.ga K x) fd ps sp := by
  obtain ⟨oc, od, dV, kV, doc, pm, an, cdv, ct, osl, rfl, lk, hcd, _, _⟩ := F.ex
  refine ⟨len, ?_⟩
  rintro A fs s H args us vs Q E ⟨hg, hr, e0, hb, rv, hsp⟩
  have hlen := len _ _ _ _ hsp
  have inK : K.In s.heap := e0.mod.kin.keeps (fun b o e => (e0.bs b o e).1)
  have noL : s.heap.NoLimit := e0.mod.nolimit.keeps (fun b o e => (e0.bs b o e).1)
  have loc : ∀ y ∈ ps.zip us, (defScope st).names.lookup y.1 = some .local ∨ ((defScope st).names.lookup y.1 = some .cell ∧ ((cellsFrom (s.heap.objs.size + 1) (defScope st).names []).lookup y.1).isSome = true) := by
    rintro ⟨n, v⟩ hy
    exact (S.par n (List.of_mem_zip hy).1).imp id (fun q => ⟨q, PySem.W.cellsFrom_some _ _ _ (.inl q)⟩)
  refine codeAny_call_function hr.depth (inK _ _ lk) rfl S.co S.gen rfl (PySem.W.codeRec_of inK hcd) (hb _ _ _ _ (wpAny_newFunctionEnv_cells S.kind loc (fun env he s1 ic => ?_)))
  cases he
  refine ⟨noL.keeps ic.toInCall.keep, codeAny_func ?_⟩
  obtain ⟨t, ht, hq⟩ := body cdv A fs s H vs Q E hsp (hr.deeper _) hg
  have I := inv_start (CX := CX0) (P := P) (w := w) (K := K) (mg := mg) (base := base) (E := E) S hr.hd e0 hlen rv ic
  refine wpAny_mono (ht.nox.run [] s1 (start N vs) H _ I hq) (fun fl s' hs => ?_) (fun e s' hs => hs)
  have fin : ∀ {σ' H' v u}, Inv (cxOf CX0 P w K mg base N x (defScope st) (He.ga K x) cdv A fs s H E) [] σ' H' s' → RelV v u → Q v H' → CE fs P w H s Q u s' := by
    intro σ' H' v u J rv q
    exact ⟨v, H', J.os, J.bare, J.base, J.hok, rv, q⟩
  cases fl with
  | ret u => obtain ⟨v, σ', H', J, rv, q⟩ := hs; exact fin J rv q
  | next => obtain ⟨σ', H', J, q⟩ := hs; exact fin (v := V.non) (u := Value.none) J rfl q
  | brk => obtain ⟨_, _, _, q⟩ := hs; exact q.elim
  | cont => obtain ⟨_, _, _, q⟩ := hs; exact q.elim
end
/-- a def under the module's name x that keeps sp where no repr is under way -/
structure DefG (P : Program) (w : World) (K : PySem.W.Frag) (mg : Str → Option Value) (base : Heap) (x : Str) (k : Nat) (ps : List Str) (sp : Sp) : Prop where
  gl : mg x = some (.ref (He.ga K x))
  kp : PySem.W.keepIn K (.ref (He.ga K x)) = true
  ok : ∃ fd, FnG P w K mg base CX0 k (He.ga K x) fd ps sp ∧ Binds K fd ps []
theorem defG_of {fa : List He.Fa} {fn : List He.DefD} {fx : List Fx} {P : Program} {w : World} {K : PySem.W.Frag} {mg : Str → Option Value} {base : Heap} (T : Tx fa fn fx K mg) (i j : Nat) {x : Str} {st : Stmt} {N ps : List Str} {k : Nat} {sp : Sp} (S : FnScope N ps (defScope st)) (B : BindN x st ps)
    (len : ∀ vs H Q E, sp vs H Q E → vs.length = ps.length) (body : BodyG P w K mg base x st N k sp) (hd : fn[i]? = some (dOf x st) := by rfl) (hg : fa[j]? = some (.glo x) := by rfl) : DefG P w K mg base x (k + 1) ps sp := by
  have gl := T.glo j hg
  obtain ⟨hp, X, G, c, _⟩ := T
  obtain ⟨fd, F⟩ := c.def_ i hd
  exact ⟨gl, F.kp, fd, fnG_of F S len body, F.bindsN B⟩
section
variable {X : Cx} {x : Str} {k j : Nat} {ps : List Str} {sp : Sp} {p pos : Pos} {e : Expr} {es : List Expr} {t : TA}
theorem pe_callG (D : DefG X.prog X.w X.K X.mg X.base x j ps sp) (hr : Room k X.A) (hgd : X.A.guards = some []) (ha : PA X (e :: es) t) (hjk : j ≤ k := by decide) (hg : Gl X x := by rfl)
    (hdb : (x == ("__debug__" : Str)) = false := by decide) (he : starEach (e :: es) X.env = (false, eval e X.env) :: starEach es X.env := by rfl) (hpl : (backTo pos (starEach es X.env)).any (·.1) = false := by rfl) :
    PE X (.Call (.Name x p) (e :: es) [] pos) (tCallA sp E0 t) := by
  obtain ⟨fd, F0, B⟩ := D.ok
  have F := F0.mono hjk
  refine ⟨fun pins s σ H Q I h => ?_⟩
  refine wpAny_Call_Name_kw (ld_glob I hg D.gl ?_ hdb)
  refine PySem.W.callWith_K (h₀ := X.base) I.ok.mod.kin D.kp (thn (ha.run pos pins s σ H _ I h) (fun us s1 z => ?_)) he hpl
  obtain ⟨vs, H1, I1, r, q⟩ := z
  refine ⟨I1.kIn, ?_⟩
  have n : (us ++ []).length = ps.length := by rw [List.append_nil, ← r.length]; exact F.len _ _ _ _ q
  have b := B s1 us I1.kIn n
  rw [List.append_nil] at b
  refine wpAny_call (codeAny_mono (F.go X.A X.stack s1 H1 ⟨us, []⟩ us vs Q E0 ⟨hgd, hr, I1.env0, b, r, q⟩) (fun r s' hq => ?_))
  cases r with
  | error e => exact False.elim hq
  | ok fl =>
    cases fl with
    | ret u => exact I1.after hq
    | next => exact False.elim hq
    | brk => exact False.elim hq
    | cont => exact False.elim hq
end
/-! ## repr of data -/
structure Nice (d : PyData) : Prop where
  lay : PyData.layable0 d = true
  shrt : PyData.intsShort 13 d = true
  show_ : PyData.showable d = true
theorem Nice.size {d : PyData} (h : Nice d) : d.shown.length ≤ sizeLine := by
  have z := shown_le13 h.lay h.shrt
  rw [sizeLine_eq]
  omega
theorem Nice.depth {d : PyData} (h : Nice d) : d.depth ≤ 64 := by
  have z := h.lay
  unfold PyData.layable0 at z
  simp only [Bool.and_eq_true, decide_eq_true_eq] at z
  exact z.1.2
def rReprD (K : PySem.W.Frag) : List V → Hp → VK → Prop := fun vs H Q => ∃ (x : V) (d : PyData), vs = [x] ∧ Dp K H x d ∧ Nice d ∧ Q (.str d.shown) H
theorem cr_reprD {X : Cx} {K : PySem.W.Frag} {A : Around} (hg : A.guards = some []) (hu : A.units + 100 < cLine) (hA : X.A = A := by rfl) (hK : X.K = K := by rfl) : CallR X (.builtin "repr") (rReprD K) := by
  subst hA hK
  intro pins s σ H vs us Q I r h
  obtain ⟨x, d, rfl, hd, nd, q⟩ := h
  obtain ⟨u, rfl, ru⟩ := vals1 r
  have hdp := nd.depth
  cases hd with
  | non => cases ru; exact PySem.P.repr_of_none ⟨.str _, H, I.tok _, ⟨_, rfl⟩, q⟩
  | bl b => cases ru; exact PySem.P.repr_of_bool ⟨.str _, H, I.tok _, ⟨_, rfl⟩, q⟩
  | int i => obtain ⟨t, rfl⟩ := ru; exact PySem.P.repr_of_int (of_decide_eq_true nd.show_) ⟨.str _, H, I.tok _, ⟨_, rfl⟩, q⟩
  | str z => obtain ⟨t, rfl⟩ := ru; exact PySem.P.repr_of_str ⟨.str _, H, I.tok _, ⟨_, rfl⟩, q⟩ nd.size
  | lst h1 h2 =>
    cases ru
    obtain ⟨as, hr⟩ := Dp.reads I _ _ _ (Dp.lst h1 h2) rfl
    exact repr_of_reads' hr nd.show_ (PyData.noDict_hsm (PyData.hasDict_of_layable nd.lay)) hg (by omega) (fun _ _ e => e) (fun h' u tk hk => ⟨.str _, H, I.kept hk, ⟨_, rfl⟩, q⟩) nd.size
  | tup h1 h2 =>
    cases ru
    obtain ⟨as, hr⟩ := Dp.reads I _ _ _ (Dp.tup h1 h2) rfl
    exact repr_of_reads' hr nd.show_ (PyData.noDict_hsm (PyData.hasDict_of_layable nd.lay)) hg (by omega) (fun _ _ e => e) (fun h' u tk hk => ⟨.str _, H, I.kept hk, ⟨_, rfl⟩, q⟩) nd.size
theorem c_repr {K : PySem.W.Frag} {H : Hp} {Q : VK} {x : V} {d : PyData} (h : Dp K H x d) (n : Nice d) (q : Q (.str d.shown) H) : rReprD K [x] H Q := ⟨x, d, rfl, h, n, q⟩

/-! ## the end of a law whose def is such -/
theorem run_end {P : Program} {w : World} {K : PySem.W.Frag} {mg mb : Str → Option Value} {k : Nat} {f a : Addr} {fd : FuncData} {x : Str} {sp : Sp} {s : Shared} {H : Hp}
    (KX : K.In s.heap) (hns : s.heap.Ns mainGlobals mg) (hb : s.heap.Ns builtinsNs mb) (hbb : ∀ x : Str, x ≠ "__name__" → mb x = bootBuiltins x) (hlim : s.heap.NoLimit) (hg : s.gens = #[]) (hr : Room k callerA)
    (F : ∀ base : Heap, K.In base → base.Ns mainGlobals mg → FnG P w K mg base CX0 k f fd [x] sp) (bind : BindsTo s fd ⟨[.ref a], []⟩ [(x, .ref a)]) (hsp : sp [.ref a] H (fun v _ => v = .bl true) fun _ _ _ => False)
    (only : Only H) (hok : HOk P w H s.heap) (one : ∀ b, H b ≠ none → b = a ∧ K.lookup a = none ∧ ∀ o, s.heap.get? a = some o → ∀ es ep, o.data ≠ .dict es ep) :
    codeAny (model P w) callerA (.call (.ref f) ⟨[.ref a], []⟩) (fun r s' => r = .ok (.ret (.bool true)) ∧ OldK s.heap s'.heap ∧ s'.os = s.os ∧ AllBare s'.gens) s := by
  have free : ∀ {b o es ep}, s.heap.get? b = some o → o.data = .dict es ep → H b = none := by
    intro b o es ep e d
    cases z : H b with
    | none => rfl
    | some u =>
      obtain ⟨e1, _, e3⟩ := one b (by rw [z]; intro q; cases q)
      subst e1
      exact absurd d (e3 o e es ep)
  have ns : ∀ {b m}, s.heap.Ns b m → (hidT s.heap H).Ns b m := by
    rintro b m ⟨o, es, ep, e, d, r⟩
    exact ⟨o, es, ep, hidT_get e (free e d), d, r⟩
  have KB : K.In (hidT s.heap H) := by
    intro b o e
    refine hidT_get (KX b o e) ?_
    cases z : H b with
    | none => rfl
    | some u =>
      obtain ⟨e1, e2, _⟩ := one b (by rw [z]; intro q; cases q)
      subst e1
      rw [e2] at e
      cases e
  have M : Mod K mg (hidT s.heap H) := ⟨KB, ns hns, ⟨mb, ns hb, hbb⟩, by obtain ⟨mc, h1, h2⟩ := hlim; exact ⟨mc, ns h1, h2⟩⟩
  have e0 : Env0 P w K mg (hidT s.heap H) callerA [] s H := ⟨rfl, M, fun b o e => of_hidT e, Nat.le_of_eq (hidT_size _ _), trivial, fun b hb => absurd hb (by simp [frs]), hok, .of_eq hg⟩
  refine codeAny_mono ((F _ KB (ns hns)).go callerA [] s H ⟨[.ref a], []⟩ [.ref a] [.ref a] _ _ ⟨rfl, hr, e0, bind, .cons rfl .nil, hsp⟩) (fun r s' z => ?_)
  cases r with
  | error e => exact False.elim z
  | ok fl =>
    cases fl with
    | next => exact False.elim z
    | brk => exact False.elim z
    | cont => exact False.elim z
    | ret u =>
      obtain ⟨v, H', os, bare, un, hok', rv, q⟩ := z
      cases (show v = .bl true from q)
      cases rv
      refine ⟨rfl, OldK.of_keep (fun b o e => ?_), os, bare⟩
      rcases only b with z | ⟨ob, xs, z⟩
      · exact un.keep b o e z (by simp [frs]) (by simp)
      · have e1 := (hok b _ z).1
        have e2 := (hok' b _ (un.frzs b ob _ z)).1
        rw [e] at e1
        cases e1
        exact e2
theorem law_end {l : PySem.W.OpenLaw} {n k : Nat} {q : Program} {loose : List Str} {XP : (Str → Option Value) → Heap → Prop} {YP : World → Heap → Prop} {d : DefRec} {x : Str}
    (hn : l.most = some n) (hn2 : n ≤ sizeLine) (hdf : d.params.defaults = []) (hr : Room k callerA)
    (F : ∀ (w : World) (mg : Str → Option Value) (fa : Addr) (h : Heap), YP w h → h.Ns mainGlobals mg → mg d.name = some (.ref fa) →
      ∃ (K : PySem.W.Frag) (fd : FuncData) (sp : Sp), K.In h ∧ (∀ (s : Shared) (u : Value), BindsTo s fd ⟨[u], []⟩ [(x, u)]) ∧
        (∀ (H : Hp) (a : Addr) (ns : List Int), SqL K H a (ns.map V.int) → sp [.ref a] H (fun v _ => v = .bl true) fun _ _ _ => False) ∧
        ∀ base : Heap, K.In base → base.Ns mainGlobals mg → FnG l.prog w K mg base CX0 k fa fd [x] sp) :
    PySem.W.WalkO q loose XP YP l.row.toRowW d [] (fun f vs => PySem.call f vs) := by
  refine Att.attach_call hn hdf (fun w s0 s mg mb fa o pm cd doc a vs ns G Y ho hd hcd hmg hobj hints hlen hg => ?_)
  obtain ⟨K, fd, sp, KX, bind, hsp, hF⟩ := F w mg fa _ Y G.T.g hmg
  have rv := vals_ints hints
  have len := hints.length
  have hz : ns.length ≤ sizeLine := Nat.le_trans hlen hn2
  cases hk : K.lookup a with
  | some ob =>
    have e := KX a ob hk
    rw [hobj] at e
    cases e
    exact run_end (H := fun _ => none) KX G.T.g G.T.b G.T.builtins G.T.nolimit hg hr hF (bind s _) (hsp _ a ns (.inr ⟨_, vs.toArray, _, hk, rfl, rfl, rfl, by rw [List.size_toArray, len]; exact hz, by simpa using rv⟩)) (fun _ => .inl rfl) (fun b u z => by cases z) (fun b z => absurd rfl z)
  | none =>
    have at_ : (fun b => if b = a then some (HO.frz { cls := .type "list", data := .seq vs.toArray } (.lst (ns.map V.int))) else none : Hp) a = some (HO.frz { cls := .type "list", data := .seq vs.toArray } (.lst (ns.map V.int))) := if_pos rfl
    refine run_end (H := fun b => if b = a then some (HO.frz { cls := .type "list", data := .seq vs.toArray } (.lst (ns.map V.int))) else none) KX G.T.g G.T.b G.T.builtins G.T.nolimit hg hr hF (bind s _) (hsp _ a ns (.inl (.inr ⟨_, at_⟩))) (fun b => ?_) (fun b u z => ?_) (fun b z => ?_)
    · by_cases h : b = a
      · exact .inr ⟨_, _, if_pos h⟩
      · exact .inl (if_neg h)
    · by_cases h : b = a
      · cases h
        cases (if_pos rfl).symm.trans z
        exact ⟨hobj, by rw [List.length_map]; exact hz, vs, _, rv, hobj⟩
      · cases (if_neg h).symm.trans z
    · by_cases h : b = a
      · refine ⟨h, hk, fun o2 e es ep dd => ?_⟩
        rw [hobj] at e
        cases e
        cases dd
      · exact absurd (if_neg h) z
/-- the law's own def, for this end -/
theorem lawG_of {fa : List He.Fa} {fn : List He.DefD} {P : Program} {w : World} {K : PySem.W.Frag} {mg : Str → Option Value} {h : Heap} {f : Addr} {N : List Str} {x : Str} {st : Stmt} {k : Nat} {sp : Sp} (KX : K.In h) (G : h.Ns mainGlobals mg) (c : He.SaysD fa fn K)
    (hf : mg "law" = some (.ref f)) (i j : Nat) (S : FnScope N [x] (defScope st)) (B : BindN "law" st [x]) (len : ∀ vs H Q E, sp vs H Q E → vs.length = 1) (body : ∀ base, BodyG P w K mg base "law" st N k sp)
    (hd : fn[i]? = some (dOf "law" st) := by rfl) (hg : fa[j]? = some (.glo "law") := by rfl) :
    ∃ fd : FuncData, (∀ (s : Shared) (v : Value), BindsTo s fd ⟨[v], []⟩ [(x, v)]) ∧ ∀ base : Heap, K.In base → base.Ns mainGlobals mg → FnG P w K mg base CX0 (k + 1) f fd [x] sp := by
  obtain ⟨fd, F⟩ := c.def_ i hd
  have gl := He.glo_ok KX G (c.fact j hg)
  cases hf.symm.trans gl
  have b := F.bindsA (ps := [x]) B
  exact ⟨fd, fun s v => b s [v] rfl, fun base _ _ => fnG_of F S len (body base)⟩
end Sa

/-! Texts: split, startswith, the tie. -/
namespace Sa
open PySem L2
section
variable {X : Cx} {K : PySem.W.Frag} {σ : St} {H : Hp} {Q : VK} {a : Addr} {s z : Str} {to te : TE} {o e : Expr}
/-- a text parted by another one -/
def rSplitU : V → List V → Hp → VK → Prop := fun x xs H Q => ∃ a b, x = .str a ∧ xs = [.str b] ∧ (b.length == 0) = false ∧ a.length + 2 ≤ sizeLine ∧ ∀ p, H p = none → Q (.ref p) (upd H p (.lst ((Txt.split a b).map V.str)))
theorem pe_splitU {apos pos : Pos} (ho : PE X o to) (he : PE X e te) (hs : starEach [e] X.env = [(false, eval e X.env)] := by rfl) (hbase : attributeBase o "split" X.env (eval o X.env) = eval o X.env := by rfl) (hline : (apos.endLine == pos.line) = true := by rfl) :
    PE X (.Call (.Attribute o "split" apos) [e] [] pos) (tM1 rSplitU to te) := pe_split ho he hs hbase hline
theorem c_split (h0 : (z.length == 0) = false) (hl : s.length + 2 ≤ sizeLine) (q : ∀ p H', New H p (.lst ((Txt.split s z).map V.str)) H' → Q (.ref p) H') : rSplitU (.str s) [.str z] H Q :=
  ⟨s, z, rfl, rfl, h0, hl, fun p hp => q p _ ⟨hp, rfl⟩⟩
def rStartsU : V → List V → Hp → VK → Prop := fun x xs H Q => ∃ a b, x = .str a ∧ xs = [.str b] ∧ Q (.bl (Txt.startswith a b)) H
theorem mt_startsU : MtR X "str.startswith" rStartsU := mt_startswith
theorem c_starts (q : Q (.bl (Txt.startswith s z)) H) : rStartsU (.str s) [.str z] H Q := ⟨s, z, rfl, rfl, q⟩
end
/-! ## the parts of a text -/
theorem join_len (y : Str) : ∀ ys : List Str, (ys.map (·.length)).sum + (ys.length - 1) * y.length = (Str.join y ys).length
  | [] => by show 0 + 0 * y.length = 0; omega
  | [x] => by show x.length + 0 + 0 * y.length = x.length; omega
  | x :: z :: r => by
    have ih := join_len y (z :: r)
    show _ = (x ++ y ++ Str.join y (z :: r)).length
    have l2 : ∀ a b : Str, (a ++ b).length = a.length + b.length := fun a b => by show (a.cps ++ b.cps).size = _; rw [Array.size_append]; rfl
    rw [l2, l2, ← ih]
    simp only [List.map_cons, List.sum_cons, List.length_cons, Nat.add_sub_cancel, Nat.add_mul, Nat.one_mul]
    omega
theorem split_len (x y : Str) : ((Txt.split x y).map (·.length)).sum + ((Txt.split x y).length - 1) * y.length = x.length := by
  rw [join_len, StrLaws.join_split]
theorem sum_mem {n : Nat} : ∀ {ns : List Nat}, n ∈ ns → n ≤ ns.sum
  | m :: r, h => by
    rw [List.sum_cons]
    rcases List.mem_cons.mp h with e | h
    · omega
    · have := sum_mem h
      omega
theorem split_part {x y z : Str} (h : z ∈ Txt.split x y) : z.length ≤ x.length := by
  have e := split_len x y
  have := sum_mem (List.mem_map_of_mem (f := fun s : Str => s.length) h)
  omega
theorem split_many {x : Str} (y : Str) (hy : 0 < y.length) : (Txt.split x y).length ≤ x.length + 1 := by
  have e := split_len x y
  have : (Txt.split x y).length - 1 ≤ ((Txt.split x y).length - 1) * y.length := Nat.le_mul_of_pos_right _ hy
  omega
theorem join_take (y : Str) (n : Nat) (ys : List Str) : (Str.join y (ys.take n)).length ≤ (Str.join y ys).length := by
  rw [← join_len, ← join_len]
  have h1 : ((ys.take n).map (·.length)).sum ≤ (ys.map (·.length)).sum := by
    conv => rhs; rw [← List.take_append_drop n ys, List.map_append, List.sum_append]
    omega
  have h2 : ((ys.take n).length - 1) * y.length ≤ (ys.length - 1) * y.length := Nat.mul_le_mul_right _ (by rw [List.length_take]; omega)
  omega
/-- text[:len(y)] is y just where text begins with it -/
theorem cut_starts (x y : Str) : decide (cutS x none (some (y.length : Int)) = y) = Txt.startswith x y := by
  rw [txt_of x, txt_of y, cutS_txt, txt_len]
  generalize x.cps.toList = xs
  generalize y.cps.toList = ys
  rw [sIx_of (by omega), Int.toNat_natCast]
  show decide (txt ((xs.drop (HT.sIx xs.length 0 none)).take (min ys.length xs.length - HT.sIx xs.length 0 none)) = txt ys) = _
  have e0 : HT.sIx xs.length 0 none = 0 := rfl
  rw [e0, List.drop_zero, Nat.sub_zero]
  unfold Txt.startswith
  rw [StrLaws.subAt_eq, txt_cps, txt_cps, txt_len, txt_len, List.drop_zero, Nat.zero_add]
  have e1 : xs.take (min ys.length xs.length) = xs.take ys.length := by
    by_cases h : ys.length ≤ xs.length
    · rw [Nat.min_eq_left h]
    · rw [Nat.min_eq_right (by omega), List.take_of_length_le (Nat.le_refl _), List.take_of_length_le (by omega)]
  rw [e1]
  by_cases h : xs.take ys.length = ys
  · have hl : ys.length ≤ xs.length := by have := congrArg List.length h; rw [List.length_take] at this; omega
    rw [h]
    simp [hl]
  · have hn : txt (xs.take ys.length) ≠ txt ys := fun e => h (txt_inj.mp e)
    simp [h, hn]
theorem getD_app_l {xs ys : List Int} {i : Nat} (h : i < xs.length) : (xs ++ ys).getD i 0 = xs.getD i 0 := by
  rw [List.getD_eq_getElem?_getD, List.getD_eq_getElem?_getD, List.getElem?_append_left h]
theorem getD_app_r {xs ys : List Int} {i : Nat} (h : xs.length ≤ i) : (xs ++ ys).getD i 0 = ys.getD (i - xs.length) 0 := by
  rw [List.getD_eq_getElem?_getD, List.getD_eq_getElem?_getD, List.getElem?_append_right h]
theorem getD_rep (n i : Nat) : (List.replicate n (0 : Int)).getD i 0 = 0 := by
  rw [List.getD_eq_getElem?_getD, List.getElem?_replicate]
  split <;> rfl
theorem str_app_len (a b : Str) : (a ++ b).length = a.length + b.length := by show (a.cps ++ b.cps).size = _; rw [Array.size_append]; rfl
theorem un100 {k : Nat} {A : Around} (r : Room k A) : A.units + 100 < cLine := by have := r.un; omega
/-! ## comprehensions whose parts only make things -/
section
variable {K : PySem.W.Frag} {σ : St} {H : Hp} {g : TG} {tt : TT} {te : TE} {a b d : Addr} {z : Str} {lo : Int} {n : Nat} {Q : VK} {vs : List Nat} {xs : List V}
theorem lcS (Pv : Addr → Nat → List V → Hp → Prop) (h0 : ∀ Dl, H Dl = none → Pv Dl 0 [] (upd H Dl (.lst [])))
    (hs : ∀ Dl i c acc H', H Dl = none → z.cps.toList[i]? = some c → H' Dl = some (.lst acc) → acc.length ≤ i → Pv Dl i acc H' → LcT g tt te vs σ Pv Dl i (.str ⟨#[c]⟩) H')
    (hd : ∀ Dl acc H', H Dl = none → H' Dl = some (.lst acc) → acc.length ≤ z.cps.toList.length → Pv Dl z.cps.toList.length acc H' → Q (.ref Dl) H') : LcJ (Its z) g tt te vs σ H Q := by
  intro Dl hD
  refine ⟨fun i m H' => m = z.cps.size - i ∧ i ≤ z.cps.size ∧ LcN Pv Dl i H', ⟨_, rfl, Nat.zero_le _, [], upd_same, Nat.zero_le _, h0 Dl hD⟩, ?_⟩
  rintro i m H1 ⟨rfl, hi, acc, h1, h2, h3⟩
  by_cases hlt : i < z.cps.size
  · refine .inr ⟨hlt, LcN Pv Dl (i + 1), fun H' p' => ⟨_, by omega, rfl, hlt, p'⟩, fun x H' y => ?_⟩
    obtain ⟨e, c, hc, e2⟩ := y
    subst e e2
    exact hs Dl i c acc _ hD (by rw [Array.getElem?_toList]; exact hc) h1 h2 h3
  · have e : i = z.cps.toList.length := by rw [Array.length_toList]; omega
    subst e
    exact .inl ⟨by rw [Array.length_toList] at hlt; exact Nat.le_of_not_lt hlt, hd Dl acc _ hD h1 h2 h3⟩
/-- the turn of such a comprehension -/
abbrev LcM (g : TG) (tt : TT) (te : TE) (vs : List Nat) (σ : St) (R : VK) (S : Hp → Prop) (x : V) (H' : Hp) : Prop :=
  g x (wipe σ vs) H' fun σ2 H2 => wipe σ2 vs = wipe σ vs ∧ tt σ2 H2 fun b H3 => if b = true then te σ2 H3 R else S H3
theorem lcS_map (f : Nat → V) (p : Nat → Bool) (hz : z.length ≤ 16777216)
    (hs : ∀ c H' R S, c ∈ z.cps.toList → Kp [] H H' → (p c = true → ∀ H4, Kp [] H' H4 → R (f c) H4) → (p c = false → ∀ H4, Kp [] H' H4 → S H4) → LcM g tt te vs σ R S (.str ⟨#[c]⟩) H')
    (hd : ∀ Dl H', H Dl = none → Kp [] H H' → H' Dl = some (.lst ((z.cps.toList.filter p).map f)) → Q (.ref Dl) H') : LcJ (Its z) g tt te vs σ H Q := by
  refine lcS (fun Dl i acc H' => Kp [] H H' ∧ acc = ((z.cps.toList.take i).filter p).map f) (fun Dl hD => ⟨Kp.new hD, rfl⟩) ?_ ?_
  · rintro Dl i c acc H' hD hc hacc hl ⟨e, rfl⟩
    have hi : i < z.cps.toList.length := (List.getElem?_eq_some_iff.mp hc).1
    have hz2 : z.cps.toList.length ≤ 16777216 := by rw [Array.length_toList]; exact hz
    refine hs c H' _ _ (List.mem_of_getElem? hc) e (fun hp H4 e4 => ?_) (fun hp H4 e4 => ?_)
    · exact lc_push (e4.at0 hacc) hl (by omega) ⟨(e.trans e4).fresh_mut hD, by rw [take_succ' hc, List.filter_append, List.map_append]; simp [hp]⟩
    · exact lc_skip (e4.at0 hacc) hl ⟨e.trans e4, by rw [take_succ' hc, List.filter_append, List.map_append]; simp [hp]⟩
  · rintro Dl acc H' hD hacc hl ⟨e, rfl⟩
    rw [List.take_length] at hacc
    exact hd Dl H' hD e hacc
theorem lcL_map {α : Type} {ys : List α} {u : α → V} (f : α → V) (p : α → Bool) (h : SqL K H a (ys.map u)) (hz : ys.length ≤ 16777216)
    (hs : ∀ y H' R S, y ∈ ys → Kp [] H H' → (p y = true → ∀ H4, Kp [] H' H4 → R (f y) H4) → (p y = false → ∀ H4, Kp [] H' H4 → S H4) → LcM g tt te vs σ R S (u y) H')
    (hd : ∀ Dl H', H Dl = none → Kp [] H H' → H' Dl = some (.lst ((ys.filter p).map f)) → Q (.ref Dl) H') : LcJ (Itl K a) g tt te vs σ H Q := by
  refine lcL (ys.map u) (fun Dl i acc H' => Kp [] H H' ∧ acc = ((ys.take i).filter p).map f) (fun Dl hD => ⟨Kp.new hD, rfl⟩) (fun Dl i acc H' hD e => SqL.kp e.1 h) ?_ ?_
  · rintro Dl i x acc H' hD hx hacc hl ⟨e, rfl⟩
    rw [List.getElem?_map] at hx
    obtain ⟨c, hc, rfl⟩ := Option.map_eq_some_iff.mp hx
    have hi : i < ys.length := (List.getElem?_eq_some_iff.mp hc).1
    refine hs c H' _ _ (List.mem_of_getElem? hc) e (fun hp H4 e4 => ?_) (fun hp H4 e4 => ?_)
    · exact lc_push (e4.at0 hacc) hl (by omega) ⟨(e.trans e4).fresh_mut hD, by rw [take_succ' hc, List.filter_append, List.map_append]; simp [hp]⟩
    · exact lc_skip (e4.at0 hacc) hl ⟨e.trans e4, by rw [take_succ' hc, List.filter_append, List.map_append]; simp [hp]⟩
  · rintro Dl acc H' hD hacc hl ⟨e, rfl⟩
    rw [List.length_map, List.take_length] at hacc
    exact hd Dl H' hD e hacc
theorem lcT_map {α : Type} {ys : List α} {u : α → V} (f : α → V) (p : α → Bool) (h : SqT K H a (ys.map u)) (hz : ys.length ≤ 16777216)
    (hs : ∀ y H' R S, y ∈ ys → Kp [] H H' → (p y = true → ∀ H4, Kp [] H' H4 → R (f y) H4) → (p y = false → ∀ H4, Kp [] H' H4 → S H4) → LcM g tt te vs σ R S (u y) H')
    (hd : ∀ Dl H', H Dl = none → Kp [] H H' → H' Dl = some (.lst ((ys.filter p).map f)) → Q (.ref Dl) H') : LcJ (Itt K a) g tt te vs σ H Q := by
  refine lcT (ys.map u) (fun Dl i acc H' => Kp [] H H' ∧ acc = ((ys.take i).filter p).map f) (fun Dl hD => ⟨Kp.new hD, rfl⟩) (fun Dl i acc H' hD e => SqT.kp e.1 h) ?_ ?_
  · rintro Dl i x acc H' hD hx hacc hl ⟨e, rfl⟩
    rw [List.getElem?_map] at hx
    obtain ⟨c, hc, rfl⟩ := Option.map_eq_some_iff.mp hx
    have hi : i < ys.length := (List.getElem?_eq_some_iff.mp hc).1
    refine hs c H' _ _ (List.mem_of_getElem? hc) e (fun hp H4 e4 => ?_) (fun hp H4 e4 => ?_)
    · exact lc_push (e4.at0 hacc) hl (by omega) ⟨(e.trans e4).fresh_mut hD, by rw [take_succ' hc, List.filter_append, List.map_append]; simp [hp]⟩
    · exact lc_skip (e4.at0 hacc) hl ⟨e.trans e4, by rw [take_succ' hc, List.filter_append, List.map_append]; simp [hp]⟩
  · rintro Dl acc H' hD hacc hl ⟨e, rfl⟩
    rw [List.length_map, List.take_length] at hacc
    exact hd Dl H' hD e hacc
/-- each turn draws -/
theorem lcR_draw {α : Type} (f : α → V) (Pa : α → Prop) (B : Bx H b d) (hz : n ≤ 16777216)
    (hs : ∀ i H' R S, i < n → Kp [b] H H' → Bx H' b d → (∀ x H4, Pa x → Kp [b] H' H4 → Bx H4 b d → R (f x) H4) → LcM g tt te vs σ R S (.int (lo + (i : Nat))) H')
    (hd : ∀ Dl H' (as : List α), H Dl = none → as.length = n → (∀ x ∈ as, Pa x) → Kp [b] H H' → Bx H' b d → H' Dl = some (.lst (as.map f)) → Q (.ref Dl) H') : LcJ (Itr lo n) g tt te vs σ H Q := by
  refine lcR (fun Dl i acc H' => Kp [b] H H' ∧ Bx H' b d ∧ ∃ as : List α, acc = as.map f ∧ as.length = i ∧ ∀ x ∈ as, Pa x) (fun Dl hD => ⟨Kp.new hD, B.new hD, [], rfl, rfl, by simp⟩) ?_ ?_
  · rintro Dl i acc H' hD hi hacc hl ⟨e, B1, as, rfl, hlen, hP⟩
    have nD := B.ne_new hD
    refine hs i H' _ _ hi e B1 (fun x H4 hx e4 B4 => ?_)
    refine lc_push (e4.at1 nD.1 hacc) hl (by omega) ⟨(e.trans e4).fresh_mut hD, B4.other nD.1 nD.2, as ++ [x], by rw [List.map_append]; rfl, by rw [List.length_append, hlen]; rfl, fun y hy => ?_⟩
    rcases List.mem_append.mp hy with h | h
    · exact hP y h
    · rw [List.mem_singleton.mp h]; exact hx
  · rintro Dl acc H' hD hacc hl ⟨e, B1, as, rfl, hlen, hP⟩
    exact hd Dl H' as hD hlen hP e B1 hacc
end
theorem Bx.pick {H H1 H2 : Hp} {b d p : Addr} {xs : List V} {K : PySem.W.Frag} (B : Bx H b d) (N : New H p (.lst xs) H1) (e : Kp [b] H1 H2) : SqL K H2 p xs := .of (e.at1 (B.ne_new N.fr).1 N.at_)
theorem c_pick {K : PySem.W.Frag} {H : Hp} {a : Addr} {i : Int} {Q : VK} {xs : List V} (h : SqL K H a xs) (h0 : 0 ≤ i) (h1 : i < xs.length) (q : ∀ v ∈ xs, Q v H) : rIx K (.ref a) (.int i) H Q :=
  c_ixL h (atI_at h0 h1) (q _ (by
    rw [List.getD_eq_getElem?_getD, List.getElem?_eq_getElem (by omega)]
    exact List.getElem_mem _))
theorem c_pickM {α : Type} {K : PySem.W.Frag} {H : Hp} {a : Addr} {i : Int} {Q : VK} {u : α → V} (ys : List α) (h : SqL K H a (ys.map u)) (h0 : 0 ≤ i) (h1 : i < ys.length) (q : ∀ y ∈ ys, Q (u y) H) : rIx K (.ref a) (.int i) H Q :=
  c_pick h h0 (by rw [List.length_map]; exact h1) (fun v hv => by obtain ⟨y, hy, rfl⟩ := List.mem_map.mp hv; exact q y hy)
/-! ## values compared, shown -/
section
variable {K : PySem.W.Frag} {H : Hp} {Q : VK} {a b : Addr} {ns ms : List Int}
theorem dp_intsT (h : SqT K H a (ns.map V.int)) : Dp K H (.ref a) (.tuple (ns.map PyData.int)) := .tup h (dpAll_ints ns)
end
end Sa

/-! Data: rows of texts compared; what is small enough to be shown. -/
namespace Sa
open PySem L2
section
variable {K : PySem.W.Frag} {H : Hp} {Q : VK} {a b : Addr} {ys zs : List Str}
/-- all codes are codes -/
def okS (z : Str) : Bool := PyData.strOk z
theorem dpAll_strs : ∀ ys : List Str, DpAll K H (ys.map V.str) (ys.map PyData.str)
  | [] => .nil
  | n :: r => .cons (.str n) (dpAll_strs r)
theorem dp_strs (h : SqL K H a (ys.map V.str)) : Dp K H (.ref a) (.list (ys.map PyData.str)) := .lst h (dpAll_strs ys)
theorem dp_strsT (h : SqT K H a (ys.map V.str)) : Dp K H (.ref a) (.tuple (ys.map PyData.str)) := .tup h (dpAll_strs ys)
theorem eqvAll_strs : ∀ ys zs : List Str, PyData.eqvAll (ys.map PyData.str) (zs.map PyData.str) = decide (ys = zs)
  | [], [] => by simp [PyData.eqvAll]
  | [], _ :: _ => by simp [PyData.eqvAll]
  | _ :: _, [] => by simp [PyData.eqvAll]
  | a :: r, b :: t => by
    simp only [List.map_cons, PyData.eqvAll, PyData.eqv, eqvAll_strs r t]
    by_cases h : a = b <;> by_cases h' : r = t <;> simp [h, h']
theorem layAll_strs : ∀ {ys : List Str}, (∀ y ∈ ys, okS y = true) → PyData.canLayAll0 (ys.map PyData.str) = true
  | [], _ => rfl
  | y :: r, h => by
    simp only [List.map_cons, PyData.canLayAll0, PyData.canLay0, Bool.and_eq_true]
    exact ⟨h y (List.mem_cons_self ..), layAll_strs fun z hz => h z (List.mem_cons_of_mem _ hz)⟩
theorem depthAll_strs : ∀ ys : List Str, PyData.depthAll (ys.map PyData.str) = 0
  | [] => rfl
  | y :: r => by simp [PyData.depthAll, PyData.depth, depthAll_strs r]
theorem shaped_strsL (h : ∀ y ∈ ys, okS y = true) : SeqAt.shaped (.list (ys.map PyData.str)) = true := by
  simp only [SeqAt.shaped, PyData.canLay0, PyData.depth, depthAll_strs, Bool.and_eq_true, decide_eq_true_eq]
  exact ⟨layAll_strs h, by omega⟩
theorem shaped_strsT (h : ∀ y ∈ ys, okS y = true) : SeqAt.shaped (.tuple (ys.map PyData.str)) = true := by
  simp only [SeqAt.shaped, PyData.canLay0, PyData.depth, depthAll_strs, Bool.and_eq_true, decide_eq_true_eq]
  exact ⟨layAll_strs h, by omega⟩
theorem c_eqLS (ha : SqL K H a (ys.map V.str)) (hb : SqL K H b (zs.map V.str)) (h1 : ∀ y ∈ ys, okS y = true) (h2 : ∀ y ∈ zs, okS y = true) (q : Q (.bl (decide (ys = zs))) H) : rEqU K (.ref a) (.ref b) H Q :=
  c_eqD (dp_strs ha) (dp_strs hb) (shaped_strsL h1) (shaped_strsL h2) (by rw [PyData.eqv, eqvAll_strs]; exact q)
theorem c_eqTS (ha : SqT K H a (ys.map V.str)) (hb : SqT K H b (zs.map V.str)) (h1 : ∀ y ∈ ys, okS y = true) (h2 : ∀ y ∈ zs, okS y = true) (q : Q (.bl (decide (ys = zs))) H) : rEqU K (.ref a) (.ref b) H Q :=
  c_eqD (dp_strsT ha) (dp_strsT hb) (shaped_strsT h1) (shaped_strsT h2) (by rw [PyData.eqv, eqvAll_strs]; exact q)
theorem c_neTS (ha : SqT K H a (ys.map V.str)) (hb : SqT K H b (zs.map V.str)) (h1 : ∀ y ∈ ys, okS y = true) (h2 : ∀ y ∈ zs, okS y = true) (q : Q (.bl (!decide (ys = zs))) H) : rNeU K (.ref a) (.ref b) H Q :=
  c_neD (dp_strsT ha) (dp_strsT hb) (shaped_strsT h1) (shaped_strsT h2) (by rw [PyData.eqv, eqvAll_strs]; exact q)
theorem c_neTI {ns ms : List Int} (ha : SqT K H a (ns.map V.int)) (hb : SqT K H b (ms.map V.int)) (s1 : SeqAt.shaped (.tuple (ns.map PyData.int)) = true) (s2 : SeqAt.shaped (.tuple (ms.map PyData.int)) = true) (q : Q (.bl (!decide (ns = ms))) H) : rNeU K (.ref a) (.ref b) H Q :=
  c_neD (dp_intsT ha) (dp_intsT hb) s1 s2 (by rw [PyData.eqv, eqvAll_ints]; exact q)
end
theorem c_eqSame {K : PySem.W.Frag} {H : Hp} {Q : VK} {x y : V} {d : PyData} (hx : Dp K H x d) (hy : Dp K H y d) (sd : SeqAt.shaped d = true) (q : Q (.bl true) H) : rEqU K x y H Q :=
  c_eqD hx hy sd sd (by rw [SeqAt.eqv_refl d (SeqAt.canLay_of_shaped sd)]; exact q)
theorem c_neSame {K : PySem.W.Frag} {H : Hp} {Q : VK} {x y : V} {d : PyData} (hx : Dp K H x d) (hy : Dp K H y d) (sd : SeqAt.shaped d = true) (q : Q (.bl false) H) : rNeU K x y H Q :=
  c_neD hx hy sd sd (by rw [SeqAt.eqv_refl d (SeqAt.canLay_of_shaped sd)]; exact q)
theorem rptS_txt (c : Nat) (n : Int) : rptS (txt [c]) n = txt (List.replicate n.toNat c) := by
  unfold rptS
  rw [txt_cps]
  show txt _ = _
  congr 1
  induction n.toNat with
  | zero => rfl
  | succ n ih => rw [List.replicate_succ, List.flatten_cons, ih, List.replicate_succ]; rfl
/-! what stands in the parts of a text -/
theorem cps_app (a b : Str) : (a ++ b).cps.toList = a.cps.toList ++ b.cps.toList := by show (a.cps ++ b.cps).toList = _; rw [Array.toList_append]
theorem join_mem {y z : Str} {c : Nat} : ∀ {ys : List Str}, z ∈ ys → c ∈ z.cps.toList → c ∈ (Str.join y ys).cps.toList
  | [x], h, hc => by rw [List.mem_singleton.mp h] at hc; exact hc
  | x :: u :: r, h, hc => by
    show c ∈ (x ++ y ++ Str.join y (u :: r)).cps.toList
    rw [cps_app, cps_app, List.mem_append, List.mem_append]
    rcases List.mem_cons.mp h with e | h
    · subst e; exact .inl (.inl hc)
    · exact .inr (join_mem h hc)
theorem split_mem {x y z : Str} {c : Nat} (h : z ∈ Txt.split x y) (hc : c ∈ z.cps.toList) : c ∈ x.cps.toList := by
  have := join_mem (y := y) h hc
  rw [StrLaws.join_split] at this
  exact this
theorem okS_iff {z : Str} : okS z = true ↔ ∀ c ∈ z.cps.toList, c < 1114112 := by
  unfold okS PyData.strOk
  rw [Array.all_eq_true_iff_forall_mem]
  simp [Array.mem_toList_iff]
theorem split_ok {x y z : Str} (hx : okS x = true) (h : z ∈ Txt.split x y) : okS z = true := okS_iff.mpr fun c hc => okS_iff.mp hx c (split_mem h hc)
theorem rptS_mem {z : Str} {n : Int} {c : Nat} (h : c ∈ (rptS z n).cps.toList) : c ∈ z.cps.toList := by
  unfold rptS at h
  simp only [List.mem_flatten] at h
  obtain ⟨l, hl, hc⟩ := h
  rw [(List.mem_replicate.mp hl).2] at hc
  exact hc
/-! shown -/
theorem nice_bl (b : Bool) : Nice (.bool b) := by cases b <;> exact ⟨by decide +kernel, by decide +kernel, by decide +kernel⟩
theorem nice_bl2 (b c : Bool) : Nice (.tuple [.bool b, .bool c]) := by cases b <;> cases c <;> exact ⟨by decide +kernel, by decide +kernel, by decide +kernel⟩
/-! the value of an and, of an or, whose second part is known -/
section
variable {σ : St} {H : Hp} {Q : VK} {te : TE}
theorem c_andE {c : Bool} (b : Bool) (h : ∀ R : VK, R (.bl b) H → te σ H R) (q : Q (.bl (c && b)) H) : if c = true then te σ H Q else Q (.bl false) H := by
  cases c with
  | true => rw [if_pos rfl]; exact h Q q
  | false => rw [if_neg Bool.false_ne_true]; exact q
theorem c_andK {c : Bool} (b : Bool) (h : ∀ R : VK, (∀ H', Kp [] H H' → R (.bl b) H') → te σ H R) (q : ∀ H', Kp [] H H' → Q (.bl (c && b)) H') : if c = true then te σ H Q else Q (.bl false) H := by
  cases c with
  | true => rw [if_pos rfl]; exact h Q q
  | false => rw [if_neg Bool.false_ne_true]; exact q H Kp.refl
theorem c_orE {c : Bool} (b : Bool) (h : ∀ R : VK, R (.bl b) H → te σ H R) (q : Q (.bl (c || b)) H) : if c = true then Q (.bl true) H else te σ H Q := by
  cases c with
  | true => rw [if_pos rfl]; exact q
  | false => rw [if_neg Bool.false_ne_true]; exact h Q q
theorem c_orK {c : Bool} (b : Bool) (h : ∀ R : VK, (∀ H', Kp [] H H' → R (.bl b) H') → te σ H R) (q : ∀ H', Kp [] H H' → Q (.bl (c || b)) H') : if c = true then Q (.bl true) H else te σ H Q := by
  cases c with
  | true => rw [if_pos rfl]; exact q H Kp.refl
  | false => rw [if_neg Bool.false_ne_true]; exact h Q q
end
theorem dp_bl2 {K : PySem.W.Frag} {H : Hp} {p : Addr} {b c : Bool} (h : H p = some (.tup [.bl b, .bl c])) : Dp K H (.ref p) (.tuple [.bool b, .bool c]) := .tup (SqT.of h) (.cons (.bl b) (.cons (.bl c) .nil))
theorem le_int {a b : Nat} : decide ((a : Int) ≤ (b : Int)) = decide (a ≤ b) := by congr 1; exact propext Int.ofNat_le
end Sa

/-! Defs that may raise an error of a class of the program; methods; an error class with one field. -/
namespace Sa
open PySem L2
section
variable {P : Program} {w : World} {K : PySem.W.Frag} {mg : Str → Option Value} {base : Heap}
theorem Tx.oex {fa : List He.Fa} {fn : List He.DefD} {fx : List Fx} (T : Tx fa fn fx K mg) (i : Nat) {x : Str} (h : fx[i]? = some (.oex x) := by rfl) : OexC K (He.ga K x) := oexB_ok (T.fx i h)
theorem Tx.xfc {fa : List He.Fa} {fn : List He.DefD} {fx : List Fx} (T : Tx fa fn fx K mg) (i : Nat) {x : Str} (h : fx[i]? = some (.xf x) := by rfl) : XfC K (He.ga K x) := xfB_ok (T.fx i h)
theorem Tx.cst {fa : List He.Fa} {fn : List He.DefD} {fx : List Fx} (T : Tx fa fn fx K mg) (i : Nat) {x : Str} {d : PyData} (h : fx[i]? = some (.cst x d) := by rfl) (H : Hp) : Dp K H (.ref (He.ga K x)) d := cst_ref (T.fx i h) H
/-- what the body of a def that may raise owes -/
def BodyX (P : Program) (w : World) (K : PySem.W.Frag) (mg : Str → Option Value) (base : Heap) (x : Str) (st : Stmt) (N : List Str) (k : Nat) (sp : Sp) : Prop :=
  ∀ (cdv : Value) (A : Around) (outer : List Env) (s : Shared) (H : Hp) (vs : List V) (Q : VK) (E : XK), sp vs H Q E → let X : Cx := cxOf (L2.CX P w) P w K mg base N x (defScope st) (He.ga K x) cdv A outer s H E
    Room k X.A → Takes X (fun cls d _ H => E cls d H) → ∃ t, PSs X (defBody st) t ∧ t { nx := fun _ H' => Q .non H', rt := Q } (start N vs) H
theorem def_ofX {fa : List He.Fa} {fn : List He.DefD} {fx : List Fx} (T : Tx fa fn fx K mg) (i j : Nat) {x : Str} {st : Stmt} {N ps : List Str} {k : Nat} {sp : Sp} (S : FnScope N ps (defScope st)) (B : BindN x st ps) (len : ∀ vs H Q E, sp vs H Q E → vs.length = ps.length)
    (body : BodyX P w K mg base x st N k sp) (hd : fn[i]? = some (dOf x st) := by rfl) (hg : fa[j]? = some (.glo x) := by rfl) : DefAt P w K mg base (L2.CX P w) x (k + 1) ps sp := by
  have gl := T.glo j hg
  obtain ⟨hp, X, G, c, _⟩ := T
  obtain ⟨fd, F⟩ := c.def_ i hd
  exact ⟨gl, F.kp, fd, F.ok S len fun cdv A outer s H vs Q E hr h => body cdv A outer s H vs Q E h hr (takes_of rfl rfl rfl rfl), F.bindsN B⟩
end
theorem passE0 {X : Cx} : Passes (L2.CX X.prog X.w) X E0 := fun pins σ H s e s' I h => by
  obtain ⟨_, _, _, _, _, _, _, _, _, _, _, _, z⟩ := h
  exact z.elim
theorem takes_never {X : Cx} : Takes X (fun _ _ _ _ => False) := fun u s' h => by
  obtain ⟨_, _, _, _, _, _, _, _, _, _, _, _, _, _, _, _, z⟩ := h
  exact z.elim
section
variable {X : Cx} {x : Str} {k j : Nat} {ps : List Str} {sp : Sp} {W : WX} {p pos : Pos} {e : Expr} {es : List Expr} {t : TA}
/-- a call of a def that may raise, where the error goes on -/
theorem pe_callX (D : DefAt X.prog X.w X.K X.mg X.base (L2.CX X.prog X.w) x j ps sp) (hr : Room k X.A) (tk : Takes X W) (ha : PA X (e :: es) t) (hjk : j ≤ k := by decide) (hg : Gl X x := by rfl)
    (hdb : (x == ("__debug__" : Str)) = false := by decide) (he : starEach (e :: es) X.env = (false, eval e X.env) :: starEach es X.env := by rfl) (hpl : (backTo pos (starEach es X.env)).any (·.1) = false := by rfl) :
    PE X (.Call (.Name x p) (e :: es) [] pos) (tCallS sp (WE W) t) := by
  obtain ⟨fd, F, B⟩ := D.ok
  exact pe_callS (F.mono hjk) hr hg D.gl D.kp B (fun σ => passAt tk σ) ha hdb he hpl
theorem names_glo {c : Addr} (h : X.mg x = some (.ref c)) (hg : Gl X x := by rfl) (hd : (x == ("__debug__" : Str)) = false := by decide) : Names X x (.ref c) := ⟨hg, hd, .inl h⟩
theorem c_callX {H : Hp} {σ : St} {Q : VK} {tr : TA} (h : tr σ H fun vs H1 => sp vs H1 Q (WE W σ)) : tCallS sp (WE W) tr σ H Q := h
end
/-! ## an error class whose __init__ keeps one field -/
def dOfM (C m q : Str) (st : Stmt) : He.DefD := ⟨(C, some m), m, q, defArgs st, defBody st, defScope st, [], []⟩
def BindM (m q : Str) (st : Stmt) (ps : List Str) : Prop := ∀ (kV doc pm : Value) (an : Option Addr) (cdv ct : Value) (us : List Value), us.length = ps.length →
  bindArgs (PySem.W.fnOf m q (defArgs st) (defBody st) (defScope st) .none kV doc pm an cdv ct) ⟨us, []⟩ = pure (ps.zip us)
/-- the statements of a class's body -/
def clsStmts : Stmt → List Stmt
  | .ClassDef (body := b) .. => b
  | _ => []
def subAt (st : Stmt) (i : Nat) : Stmt := (clsStmts st).getD i (.Pass ⟨0, 0, 0, 0⟩)
section
variable {P : Program} {w : World} {K : PySem.W.Frag} {mg : Str → Option Value} {base : Heap}
/-- a method of the class x that keeps sp -/
structure MethAt (P : Program) (w : World) (K : PySem.W.Frag) (mg : Str → Option Value) (base : Heap) (CX : CXT) (C m : Str) (k : Nat) (ps : List Str) (sp : Sp) : Prop where
  me : Meth K (He.ga K C) m (He.ma K (He.ga K C) m)
  ok : ∃ fd, FnOk P w K mg base CX k (He.ma K (He.ga K C) m) fd ps sp ∧ Binds K fd ps []
def BodyM (P : Program) (w : World) (K : PySem.W.Frag) (mg : Str → Option Value) (base : Heap) (C m q : Str) (st : Stmt) (N : List Str) (k : Nat) (sp : Sp) : Prop :=
  ∀ (cdv : Value) (A : Around) (outer : List Env) (s : Shared) (H : Hp) (vs : List V) (Q : VK) (E : XK), sp vs H Q E → let X : Cx := (cxOf CX0 P w K mg base N q (defScope st) (He.ma K (He.ga K C) m) cdv A outer s H E).nox
    Room k X.A → ∃ t, PSs X (defBody st) t ∧ t { nx := fun _ H' => Q .non H', rt := Q } (start N vs) H
def BodyMX (P : Program) (w : World) (K : PySem.W.Frag) (mg : Str → Option Value) (base : Heap) (C m q : Str) (st : Stmt) (N : List Str) (k : Nat) (sp : Sp) : Prop :=
  ∀ (cdv : Value) (A : Around) (outer : List Env) (s : Shared) (H : Hp) (vs : List V) (Q : VK) (E : XK), sp vs H Q E → let X : Cx := cxOf (L2.CX P w) P w K mg base N q (defScope st) (He.ma K (He.ga K C) m) cdv A outer s H E
    Room k X.A → Takes X (fun cls d _ H => E cls d H) → ∃ t, PSs X (defBody st) t ∧ t { nx := fun _ H' => Q .non H', rt := Q } (start N vs) H
theorem meth_of {fa : List He.Fa} {fn : List He.DefD} {fx : List Fx} (T : Tx fa fn fx K mg) (i j : Nat) {C m q : Str} {st : Stmt} {N ps : List Str} {k : Nat} {sp : Sp} (S : FnScope N ps (defScope st)) (B : BindM m q st ps) (len : ∀ vs H Q E, sp vs H Q E → vs.length = ps.length)
    (body : BodyM P w K mg base C m q st N k sp) (hd : fn[i]? = some (dOfM C m q st) := by rfl) (hg : fa[j]? = some (.meth C m) := by rfl) : MethAt P w K mg base CX0 C m (k + 1) ps sp := by
  have me := He.meth_ok (T.fact j hg)
  obtain ⟨hp, X, G, c, _⟩ := T
  obtain ⟨fd, F⟩ := c.def_ i hd
  refine ⟨me, fd, F.ok S len fun cdv A outer s H vs Q E hr h => ?_, F.bindsN B⟩
  obtain ⟨t, h1, h2⟩ := body cdv A outer s H vs Q E h hr
  exact ⟨t, h1.nox, h2⟩
theorem meth_ofX {fa : List He.Fa} {fn : List He.DefD} {fx : List Fx} (T : Tx fa fn fx K mg) (i j : Nat) {C m q : Str} {st : Stmt} {N ps : List Str} {k : Nat} {sp : Sp} (S : FnScope N ps (defScope st)) (B : BindM m q st ps) (len : ∀ vs H Q E, sp vs H Q E → vs.length = ps.length)
    (body : BodyMX P w K mg base C m q st N k sp) (hd : fn[i]? = some (dOfM C m q st) := by rfl) (hg : fa[j]? = some (.meth C m) := by rfl) : MethAt P w K mg base (L2.CX P w) C m (k + 1) ps sp := by
  have me := He.meth_ok (T.fact j hg)
  obtain ⟨hp, X, G, c, _⟩ := T
  obtain ⟨fd, F⟩ := c.def_ i hd
  exact ⟨me, fd, F.ok S len fun cdv A outer s H vs Q E hr h => body cdv A outer s H vs Q E h hr (takes_of rfl rfl rfl rfl), F.bindsN B⟩
end
/-- what __init__(self, name) keeps: the field f -/
def spInit (K : PySem.W.Frag) (C : Addr) (f : Str) : Sp := fun vs H Q _ => ∃ (a : Addr) (v : V), vs = [.ref a, v] ∧ H a = some (exo a C none) ∧ ∀ dx, H dx = none → dx ≠ a → Q .non (upd (upd H dx (exd dx [(f, v)])) a (exo a C (some dx)))
theorem c_ost {K : PySem.W.Frag} {f : Str} {to te : TE} {D : Ends} {σ : St} {H : Hp} (h : te σ H fun y H1 => to σ H1 fun x H2 => ∃ a C : Addr, x = .ref a ∧ OexC K C ∧ PySem.W.findIn K (.ref C) f = some none ∧
  ((H2 a = some (exo a C none) ∧ ∀ dx, H2 dx = none → dx ≠ a → D.nx σ (upd (upd H2 dx (exd dx [(f, y)])) a (exo a C (some dx)))) ∨
    ∃ (dx : Addr) (fs : List (Str × V)), H2 a = some (exo a C (some dx)) ∧ H2 dx = some (exd dx fs) ∧ fs.length ≤ 900 ∧ D.nx σ (upd H2 dx (exd dx ((f, y) :: fs))))) : tOst K f to te D σ H := h
/-- an error class x of one field f -/
structure ErrC (P : Program) (w : World) (K : PySem.W.Frag) (mg : Str → Option Value) (base : Heap) (x f : Str) : Prop where
  gl : mg x = some (.ref (He.ga K x))
  cls : OexC K (He.ga K x)
  xf : XfC K (He.ga K x)
  no : PySem.W.findIn K (.ref (He.ga K x)) f = some none
  ok : ∃ ps, MethAt P w K mg base CX0 x "__init__" 2 ps (spInit K (He.ga K x) f)
/-- x(v) is made: an error whose field f is v -/
def RaiseK (K : PySem.W.Frag) (x f : Str) (vs : List V) (H1 : Hp) (Q : XK) : Prop := vs.length ≤ 1000 ∧ ∀ a, H1 a = none → spInit K (He.ga K x) f (.ref a :: (vs ++ [])) (upd H1 a (exo a (He.ga K x) none))
  (fun v H2 => v = .non ∧ ∃ (d : Addr) (fs : List (Str × V)), H2 a = some (exo a (He.ga K x) (some d)) ∧ H2 d = some (exd d fs) ∧ H1 d = none ∧ Q (.ref (He.ga K x)) (some d) (upd (del H2 a) d (.xd fs))) (fun _ _ _ => False)
def tMkE (K : PySem.W.Frag) (x f : Str) (t : TA) : St → Hp → XK → Prop := fun σ H Q => t σ H fun vs H1 => RaiseK K x f vs H1 Q
def tRaiseE (K : PySem.W.Frag) (x f : Str) (W : WX) (t : TA) : TS := fun _ σ H => t σ H fun vs H1 => RaiseK K x f vs H1 fun cls d H' => W cls d σ H'
theorem c_err {K : PySem.W.Frag} {x f : Str} {v : V} {H1 : Hp} {Q : XK} (q : ∀ d H', New H1 d (.xd [(f, v)]) H' → Q (.ref (He.ga K x)) (some d) H') : RaiseK K x f [v] H1 Q := by
  refine ⟨by simp, fun a ha => ⟨a, v, rfl, upd_same, fun dx hdx hne => ⟨rfl, dx, [(f, v)], upd_same, ?_, ?_, ?_⟩⟩⟩
  · rw [upd_ne hne, upd_same]
  · rw [upd_ne hne] at hdx
    exact hdx
  · have hd1 : H1 dx = none := by rw [upd_ne hne] at hdx; exact hdx
    have e : upd (del (upd (upd (upd H1 a (exo a (He.ga K x) none)) dx (exd dx [(f, v)])) a (exo a (He.ga K x) (some dx))) a) dx (.xd [(f, v)]) = upd H1 dx (.xd [(f, v)]) := by
      funext b
      by_cases h1 : b = dx
      · rw [h1, upd_same, upd_same]
      · rw [upd_ne h1, upd_ne h1]
        by_cases h2 : b = a
        · rw [h2, del_same, ha]
        · rw [del_ne h2, upd_ne h2, upd_ne h1, upd_ne h2]
    rw [e]
    exact q dx _ ⟨hd1, rfl⟩
theorem c_raiseE {K : PySem.W.Frag} {x f : Str} {W : WX} {t : TA} {D : Ends} {σ : St} {H : Hp} (h : t σ H fun vs H1 => RaiseK K x f vs H1 fun cls d H' => W cls d σ H') : tRaiseE K x f W t D σ H := h
section
variable {X : Cx} {x f : Str} {k : Nat} {W : WX} {p pos pos2 : Pos} {e : Expr} {es : List Expr} {t : TA}
theorem pmk_err {K : PySem.W.Frag} (T : ErrC X.prog X.w X.K X.mg X.base x f) (hr : Room k X.A) (ha : PA X (e :: es) t) (hk : 3 ≤ k := by decide) (hK : X.K = K := by rfl) (hg : Gl X x := by rfl)
    (hdb : (x == ("__debug__" : Str)) = false := by decide) (he : starEach (e :: es) X.env = (false, eval e X.env) :: starEach es X.env := by rfl) (hpl : (backTo pos (starEach es X.env)).any (·.1) = false := by rfl) :
    PMk X (.Call (.Name x p) (e :: es) [] pos) (tMkE K x f t) := by
  subst hK
  obtain ⟨ps, M⟩ := T.ok
  obtain ⟨fd, F, B⟩ := M.ok
  have fnT : PySem.W.typeIn X.K (.ref (He.ma X.K (He.ga X.K x) "__init__")) = some (.type "function") := eq_of_beq M.me.fn
  exact pmk_oex (p := p) T.cls M.me.at_ fnT F (hr.mono hk) B .nil (fun _ _ _ _ _ _ _ h => h.elim) hg T.gl ha hdb he hpl
theorem ps_raiseE {K : PySem.W.Frag} (T : ErrC X.prog X.w X.K X.mg X.base x f) (hr : Room k X.A) (tk : Takes X W) (ha : PA X (e :: es) t) (hk : 3 ≤ k := by decide) (hK : X.K = K := by rfl) (hg : Gl X x := by rfl) (hc : X.calm = true := by rfl)
    (hdb : (x == ("__debug__" : Str)) = false := by decide) (he : starEach (e :: es) X.env = (false, eval e X.env) :: starEach es X.env := by rfl) (hpl : (backTo pos (starEach es X.env)).any (·.1) = false := by rfl) :
    PS X (.Raise (some (.Call (.Name x p) (e :: es) [] pos)) none pos2) (tRaiseE K x f W t) := ps_raise hc tk (pmk_err T hr ha hk hK hg hdb he hpl)
end
/-! ## try .. except x as n -/
section
variable {K : PySem.W.Frag} {i : Nat} {ts : Addr → Value → Option Addr → TS} {Wout : WX} {D : Ends} {σ : St} {H : Hp} {cls : Value} {d : Option Addr} {c : Value}
theorem c_caught (he : PySem.W.exmOne K cls c = some true) (h : ∀ a, H a = none → ts a cls d { nx := fun σ' H' => D.nx (σ'.set i none) H', rt := D.rt, bk := fun σ' H' => D.bk (σ'.set i none) H', ct := fun σ' H' => D.ct (σ'.set i none) H' } (σ.set i (some (.ref a))) H) :
    wAs K c i ts Wout D cls d σ H := ⟨true, he, fun _ => h, fun z => by cases z⟩
theorem c_xf {a C : Addr} {f : Str} {te : TE} {Q : VK} (h : te σ H fun x H1 => x = .ref a ∧ cls = .ref C ∧ ∃ (dd : Addr) (fs : List (Str × V)) (v : V), d = some dd ∧ H1 dd = some (.xd fs) ∧ fs.lookup f = some v ∧ Q v H1) : tXf a cls d C f te σ H Q := h
end
/-! ## isinstance -/
section
variable {K : PySem.W.Frag} {H : Hp} {Q : VK} {a : Addr} {xs : List V} {T : String}
theorem cr_isi {X : Cx} (hK : X.K = K := by rfl) : CallR X (.builtin "isinstance") (rIsi K) := hK ▸ call_isi
theorem c_isiL {b : Bool} (h : H a = some (.lst xs)) (hk : kitB "list" T = some b) (q : Q (.bl b) H) : rIsi K [.ref a, .ty T] H Q := ⟨_, _, _, _, b, rfl, .ty T, .base (.lst h), kit_ty hk, q⟩
theorem c_isiT {b : Bool} (h : H a = some (.tup xs)) (hk : kitB "tuple" T = some b) (q : Q (.bl b) H) : rIsi K [.ref a, .ty T] H Q := ⟨_, _, _, _, b, rfl, .ty T, .base (.tup h), kit_ty hk, q⟩
theorem c_isiN {b : Bool} (hk : kitB "NoneType" T = some b) (q : Q (.bl b) H) : rIsi K [.non, .ty T] H Q := ⟨_, _, _, _, b, rfl, .ty T, .base .non, kit_ty hk, q⟩
theorem c_isiS {s : Str} {b : Bool} (hk : kitB "str" T = some b) (q : Q (.bl b) H) : rIsi K [.str s, .ty T] H Q := ⟨_, _, _, _, b, rfl, .ty T, .base (.str s), kit_ty hk, q⟩
end
end Sa

/-! Comprehensions over any walk. -/
namespace Sa
open PySem L2
/-- a walk of n turns: while ok, its turn i gives x, by Y -/
structure Itn (J : It) (n : Nat) (ok : Hp → Prop) (Y : Nat → V → Hp → Hp → Prop) : Prop where
  go : ∀ i H, ok H → i < n → J.go i H
  stop : ∀ i H, ok H → n ≤ i → J.stop i H
  yld : ∀ i H x H', ok H → i < n → J.yld i H x H' → Y i x H H'
  kp : ∀ i x H H', Y i x H H' → Kp [] H H'
section
variable {K : PySem.W.Frag} {a : Addr} {α : Type} {ys : List α} {u : α → V} {lo c : Int} {n : Nat} {z : Str}
theorem itn_l : Itn (Itl K a) ys.length (fun H => SqL K H a (ys.map u)) (fun i x H H' => H' = H ∧ ∃ y, ys[i]? = some y ∧ x = u y) where
  go := fun i H ok hi => ⟨_, u (ys[i]), ok, by rw [List.getElem?_map, List.getElem?_eq_getElem hi]; rfl⟩
  stop := fun i H ok hi => ⟨_, ok, by rw [List.length_map]; exact hi⟩
  yld := fun i H x H' ok hi y => by
    obtain ⟨e, h⟩ := y
    have := h _ ok
    rw [List.getElem?_map] at this
    obtain ⟨y, h1, h2⟩ := Option.map_eq_some_iff.mp this
    exact ⟨e, y, h1, h2.symm⟩
  kp := fun i x H H' h => by rw [h.1]; exact Kp.refl
theorem itn_t : Itn (Itt K a) ys.length (fun H => SqT K H a (ys.map u)) (fun i x H H' => H' = H ∧ ∃ y, ys[i]? = some y ∧ x = u y) where
  go := fun i H ok hi => ⟨_, u (ys[i]), ok, by rw [List.getElem?_map, List.getElem?_eq_getElem hi]; rfl⟩
  stop := fun i H ok hi => ⟨_, ok, by rw [List.length_map]; exact hi⟩
  yld := fun i H x H' ok hi y => by
    obtain ⟨e, h⟩ := y
    have := h _ ok
    rw [List.getElem?_map] at this
    obtain ⟨y, h1, h2⟩ := Option.map_eq_some_iff.mp this
    exact ⟨e, y, h1, h2.symm⟩
  kp := fun i x H H' h => by rw [h.1]; exact Kp.refl
theorem itn_r : Itn (Itr lo n) n (fun _ => True) (fun i x H H' => H' = H ∧ x = .int (lo + (i : Nat))) where
  go := fun i H _ hi => hi
  stop := fun i H _ hi => hi
  yld := fun i H x H' _ hi y => y
  kp := fun i x H H' h => by rw [h.1]; exact Kp.refl
theorem itn_c : Itn (Itc lo c n) n (fun _ => True) (fun i x H H' => H' = H ∧ x = .int (lo + (i : Nat) * c)) where
  go := fun i H _ hi => hi
  stop := fun i H _ hi => hi
  yld := fun i H x H' _ hi y => y
  kp := fun i x H H' h => by rw [h.1]; exact Kp.refl
theorem itn_s : Itn (Its z) z.cps.toList.length (fun _ => True) (fun i x H H' => H' = H ∧ ∃ c, z.cps.toList[i]? = some c ∧ x = .str ⟨#[c]⟩) where
  go := fun i H _ hi => by rw [Array.length_toList] at hi; exact hi
  stop := fun i H _ hi => by rw [Array.length_toList] at hi; exact hi
  yld := fun i H x H' _ hi y => by
    obtain ⟨e, c, hc, h⟩ := y
    exact ⟨e, c, by rw [Array.getElem?_toList]; exact hc, h⟩
  kp := fun i x H H' h => by rw [h.1]; exact Kp.refl
theorem itn_e : Itn (Ite K a) ys.length (fun H => SqL K H a (ys.map u)) (fun i x H H' => ∃ T y, x = .ref T ∧ New H T (.tup [.int (i : Nat), u y]) H' ∧ ys[i]? = some y) where
  go := fun i H ok hi => ⟨_, u (ys[i]), ok, by rw [List.getElem?_map, List.getElem?_eq_getElem hi]; rfl⟩
  stop := fun i H ok hi => ⟨_, ok, by rw [List.length_map]; exact hi⟩
  yld := fun i H x H' ok hi y => by
    obtain ⟨T, x', h1, h2, h3, h4⟩ := y
    have := h4 _ ok
    rw [List.getElem?_map] at this
    obtain ⟨y, e1, e2⟩ := Option.map_eq_some_iff.mp this
    subst e2
    exact ⟨T, y, h1, ⟨h2, h3⟩, e1⟩
  kp := fun i x H H' h => by
    obtain ⟨T, y, _, N, _⟩ := h
    exact N.kp
end
section
variable {K : PySem.W.Frag} {σ : St} {H : Hp} {g : TG} {tt : TT} {te : TE} {tb : TS} {Dn : Ends} {n : Nat} {Q : VK} {vs : List Nat} {J : It} {ok : Hp → Prop} {Y : Nat → V → Hp → Hp → Prop}
theorem lcQ (I : Itn J n ok Y) (Pv : Addr → Nat → List V → Hp → Prop) (h0 : ∀ Dl, H Dl = none → Pv Dl 0 [] (upd H Dl (.lst []))) (hok : ∀ Dl i acc H', H Dl = none → Pv Dl i acc H' → ok H')
    (hs : ∀ Dl i x acc H' H'', H Dl = none → i < n → H' Dl = some (.lst acc) → acc.length ≤ i → Pv Dl i acc H' → Y i x H' H'' → LcT g tt te vs σ Pv Dl i x H'')
    (hd : ∀ Dl acc H', H Dl = none → H' Dl = some (.lst acc) → acc.length ≤ n → Pv Dl n acc H' → Q (.ref Dl) H') : LcJ J g tt te vs σ H Q := by
  intro Dl hD
  refine ⟨fun i m H' => m = n - i ∧ i ≤ n ∧ LcN Pv Dl i H', ⟨_, rfl, Nat.zero_le _, [], upd_same, Nat.zero_le _, h0 Dl hD⟩, ?_⟩
  rintro i m H1 ⟨rfl, hi, acc, h1, h2, h3⟩
  have o := hok Dl i acc H1 hD h3
  by_cases hlt : i < n
  · exact .inr ⟨I.go i H1 o hlt, LcN Pv Dl (i + 1), fun H' p' => ⟨_, by omega, rfl, hlt, p'⟩, fun x H' y => hs Dl i x acc H1 H' hD hlt h1 h2 h3 (I.yld i H1 x H' o hlt y)⟩
  · have e : i = n := by omega
    subst e
    exact .inl ⟨I.stop i H1 o (Nat.le_refl _), hd Dl acc H1 hD h1 h2 h3⟩
theorem forQ (I : Itn J n ok Y) (Pv : Nat → St → Hp → Prop) (h0 : Pv 0 σ H) (hok : ∀ i σ H', Pv i σ H' → ok H')
    (hs : ∀ i x σ H' H'', i < n → Pv i σ H' → Y i x H' H'' → g x σ H'' fun σ2 H2 => tb { Dn with nx := Pv (i + 1), ct := Pv (i + 1), bk := Dn.nx } σ2 H2) (hd : ∀ σ H', Pv n σ H' → Dn.nx σ H') : ForJ J g tb Dn σ H := by
  refine ⟨fun i m σ H => m = n - i ∧ i ≤ n ∧ Pv i σ H, ⟨_, rfl, Nat.zero_le _, h0⟩, ?_⟩
  rintro i m σ H ⟨rfl, hi, p⟩
  have o := hok i σ H p
  by_cases hlt : i < n
  · exact .inr ⟨I.go i H o hlt, Pv (i + 1), fun σ' H' p' => ⟨_, by omega, rfl, hlt, p'⟩, fun x H' y => hs i x σ H H' hlt p (I.yld i H x H' o hlt y)⟩
  · have e : i = n := by omega
    subst e
    exact .inl ⟨I.stop i H o (Nat.le_refl _), hd σ H p⟩
/-- each turn makes a value that is told by the turn's number -/
theorem lcQ_map (I : Itn J n ok Y) (f : Nat → V) (hz : n ≤ 16777216) (hok : ∀ H', Kp [] H H' → ok H')
    (hs : ∀ i x H' H'' R S, i < n → Kp [] H H' → Y i x H' H'' → (∀ H4, Kp [] H'' H4 → R (f i) H4) → LcM g tt te vs σ R S x H'')
    (hd : ∀ Dl H', H Dl = none → Kp [] H H' → H' Dl = some (.lst ((List.range n).map f)) → Q (.ref Dl) H') : LcJ J g tt te vs σ H Q := by
  refine lcQ I (fun Dl i acc H' => Kp [] H H' ∧ acc = (List.range i).map f) (fun Dl hD => ⟨Kp.new hD, rfl⟩) (fun Dl i acc H' hD e => hok H' e.1) ?_ ?_
  · rintro Dl i x acc H' H'' hD hi hacc hl ⟨e, rfl⟩ y
    have k := I.kp i x H' H'' y
    refine hs i x H' H'' _ _ hi e y fun H4 e4 => ?_
    exact lc_push (e4.at0 (k.at0 hacc)) hl (by omega) ⟨((e.trans k).trans e4).fresh_mut hD, by rw [List.range_succ, List.map_append]; rfl⟩
  · rintro Dl acc H' hD hacc hl ⟨e, rfl⟩
    exact hd Dl H' hD e hacc
/-- each turn makes a new object -/
theorem lcQ_new (I : Itn J n ok Y) (ob : Nat → HO) (hz : n ≤ 16777216) (hok : ∀ H', Kp [] H H' → ok H')
    (hs : ∀ i x H' H'' R S, i < n → Kp [] H H' → Y i x H' H'' → (∀ q H4, H'' q = none → Kp [] H'' H4 → H4 q = some (ob i) → R (.ref q) H4) → LcM g tt te vs σ R S x H'')
    (hd : ∀ Dl (qs : List Addr) H', H Dl = none → Kp [] H H' → H' Dl = some (.lst (qs.map V.ref)) → qs.length = n → (∀ k q, qs[k]? = some q → H q = none ∧ H' q = some (ob k)) → Q (.ref Dl) H') : LcJ J g tt te vs σ H Q := by
  refine lcQ I (fun Dl i acc H' => Kp [] H H' ∧ ∃ qs : List Addr, acc = qs.map V.ref ∧ qs.length = i ∧ ∀ k q, qs[k]? = some q → H q = none ∧ q ≠ Dl ∧ H' q = some (ob k)) (fun Dl hD => ⟨Kp.new hD, [], rfl, rfl, fun k q h => by simp at h⟩) (fun Dl i acc H' hD e => hok H' e.1) ?_ ?_
  · rintro Dl i x acc H' H'' hD hi hacc hl ⟨e, qs, rfl, hq, hqs⟩ y
    have k := I.kp i x H' H'' y
    refine hs i x H' H'' _ _ hi e y fun q H4 hn e4 h4 => ?_
    have nq : q ≠ Dl := (ne_of_none (k.at0 hacc) hn).symm
    refine lc_push (e4.at0 (k.at0 hacc)) hl (by omega) ⟨((e.trans k).trans e4).fresh_mut hD, qs ++ [q], by rw [List.map_append]; rfl, by rw [List.length_append, hq]; rfl, fun j w hw => ?_⟩
    by_cases hj : j < qs.length
    · rw [List.getElem?_append_left hj] at hw
      obtain ⟨a1, a2, a3⟩ := hqs j w hw
      exact ⟨a1, a2, upd_other a2 (e4.at0 (k.at0 a3))⟩
    · rw [List.getElem?_append_right (by omega)] at hw
      have hj2 : j - qs.length = 0 := by
        cases h : j - qs.length with
        | zero => rfl
        | succ m => rw [h] at hw; simp at hw
      rw [hj2] at hw
      simp only [List.getElem?_cons_zero, Option.some.injEq] at hw
      subst hw
      have ej : j = i := by omega
      subst ej
      exact ⟨free0 (e.trans k) hn, nq, upd_other nq h4⟩
  · rintro Dl acc H' hD hacc hl ⟨e, qs, rfl, hq, hqs⟩
    exact hd Dl qs H' hD e hacc hq fun k q h => ⟨(hqs k q h).1, (hqs k q h).2.2⟩
end
/-! ## range with a step; enumerate -/
section
variable {K : PySem.W.Frag} {σ : St} {H : Hp} {g : TG} {tt : TT} {te : TE} {tb : TS} {ta : TA} {D : Ends} {n : Nat} {Q : VK} {vs : List Nat} {R : It → Hp → Prop} {a : Addr} {xs : List V}
theorem rgC_up {len : Nat} {c : Int} (h0 : 0 < c) (h1 : c < 1000000) (h2 : len < 1000000000) : RgC 0 len c (((len : Int) + c - 1) / c).toNat := by
  have e : Builtin.Range.rangeSize 0 len c = ((len : Int) + c - 1) / c := by
    unfold Builtin.Range.rangeSize
    rw [if_pos h0]
    by_cases hl : (0 : Int) < len
    · rw [if_pos hl]
      have e2 : (len : Int) + c - 1 = (len - 0 - 1) + c * 1 := by omega
      rw [e2, Int.add_mul_ediv_left _ _ (by omega)]
    · rw [if_neg hl]
      exact (Int.ediv_eq_zero_of_lt (by omega) (by omega)).symm
  have hq0 : 0 ≤ ((len : Int) + c - 1) / c := Int.ediv_nonneg (by omega) (by omega)
  have hq1 : ((len : Int) + c - 1) / c ≤ (len : Int) + c - 1 := Int.ediv_le_self _ (by omega)
  refine ⟨by omega, by omega, ?_, by rw [e]; omega⟩
  unfold Builtin.Range.small
  rw [e]
  simp only [Builtin.Range.rangeFitsLong, Bool.and_eq_true, Bool.or_eq_true, decide_eq_true_eq, beq_iff_eq, if_pos h0]
  omega
theorem c_rng3 (h : ta σ H fun vs H1 => ∃ (i j c : Int) (n : Nat), vs = [.int i, .int j, .int c] ∧ RgC i j c n ∧ R (Itc i c n) H1) : iRng3 ta σ H R := h
theorem c_r3C {σ : St} {len : Nat} {c : Int} (h0 : 0 < c) (h1 : c < 1000000) (h2 : len < 1000000000) (h : LcJ (Itc 0 c (((len : Int) + c - 1) / c).toNat) g tt te vs σ H Q) :
    ∃ (i j c' : Int) (n : Nat), [V.int 0, V.int len, V.int c] = [.int i, .int j, .int c'] ∧ RgC i j c' n ∧ LcJ (Itc i c' n) g tt te vs σ H Q := ⟨0, len, c, _, rfl, rgC_up h0 h1 h2, h⟩
theorem c_r3F {σ : St} {len : Nat} {c : Int} (h0 : 0 < c) (h1 : c < 1000000) (h2 : len < 1000000000) (h : ForJ (Itc 0 c (((len : Int) + c - 1) / c).toNat) g tb D σ H) :
    ∃ (i j c' : Int) (n : Nat), [V.int 0, V.int len, V.int c] = [.int i, .int j, .int c'] ∧ RgC i j c' n ∧ ForJ (Itc i c' n) g tb D σ H := ⟨0, len, c, _, rfl, rgC_up h0 h1 h2, h⟩
theorem c_enum (h : ta σ H fun vs H1 => ∃ a xs, vs = [.ref a] ∧ SqL K H1 a xs ∧ R (Ite K a) H1) : iEnum K ta σ H R := h
theorem pi_enumU {X : Cx} {e : Expr} {p pos tpos : Pos} {elts : List Expr} {kk : Nat} (hg : Gl X "enumerate") (hm : X.mg "enumerate" = none) (ha : PA X [e] ta) (hK : X.K = K := by rfl) (hs : starEach [e] X.env = [(false, eval e X.env)] := by rfl) :
    PI X (.Tuple elts kk tpos) (.Call (.Name "enumerate" p) [e] [] pos) (iEnum K ta) := hK ▸ pi_enum hg hm ha hs
end
theorem bitAnd_255 {x : Int} (h : 0 ≤ x) : Builtin.bitAnd x 255 = x % 256 := PyProof.Rows.bitAnd_m8 x
end Sa

/-! Classes: fields, methods, new instances. -/
namespace Sa
open PySem L2
/-! ## fields -/
/-- x.f is v -/
def FldK (K : PySem.W.Frag) (f : Str) (x : V) (H : Hp) (Q : VK) : Prop := ∃ a C dx fs v, x = .ref a ∧ H a = some (.ins C dx fs) ∧ Cls K C ∧ NoAttr K C f ∧ fs.lookup f = some v ∧ Q v H
def tFldU (K : PySem.W.Frag) (ta : TE) (f : Str) : TE := fun σ H Q => ta σ H fun x H1 => FldK K f x H1 Q
/-- x.f = y -/
def SetFldK (K : PySem.W.Frag) (f : Str) (x y : V) (H : Hp) (R : Hp → Prop) : Prop := ∃ a C dx fs, x = .ref a ∧ H a = some (.ins C dx fs) ∧ Cls K C ∧ NoAttr K C f ∧ fs.length < 1000 ∧ R (upd H a (.ins C dx (putF f y fs)))
def sFldU (K : PySem.W.Frag) (ta tv : TE) (f : Str) : TS := fun D σ H => tv σ H fun y H1 => ta σ H1 fun x H2 => SetFldK K f x y H2 fun H3 => D.nx σ H3
section
variable {X : Cx} {K : PySem.W.Frag} {σ : St} {H : Hp} {Q : VK} {D : Ends} {o e value : Expr} {ta tv : TE} {f : Str} {pos pos' : Pos} {a C dx : Addr} {fs : List (Str × V)} {v : V} {R : Hp → Prop}
theorem pe_fldU (he : PE X e ta) (hK : X.K = K := by rfl) (hb : attributeBase e f X.env (eval e X.env) = eval e X.env := by rfl) : PE X (.Attribute e f pos) (tFldU K ta f) := by
  subst hK
  exact pe_fld he hb
theorem ps_fldU (ha : PE X o ta) (hv : PE X value tv) (hK : X.K = K := by rfl) (hs : swapsWith value (some (.Attribute o f pos')) pos.line X.env = pure false := by rfl) : PS X (.Assign [.Attribute o f pos'] value pos) (sFldU K ta tv f) := by
  subst hK
  exact ps_fld ha hv hs
theorem c_fld (h : ta σ H fun x H1 => FldK K f x H1 Q) : tFldU K ta f σ H Q := h
theorem c_fldAt (h : H a = some (.ins C dx fs)) (c : Cls K C) (n : NoAttr K C f) (l : fs.lookup f = some v) (q : Q v H) : FldK K f (.ref a) H Q := ⟨a, C, dx, fs, v, rfl, h, c, n, l, q⟩
theorem c_setF (h : tv σ H fun y H1 => ta σ H1 fun x H2 => SetFldK K f x y H2 fun H3 => D.nx σ H3) : sFldU K ta tv f D σ H := h
theorem c_setFAt (h : H a = some (.ins C dx fs)) (c : Cls K C) (n : NoAttr K C f) (l : fs.length < 1000) (q : R (upd H a (.ins C dx (putF f v fs)))) : SetFldK K f (.ref a) v H R := ⟨a, C, dx, fs, rfl, h, c, n, l, q⟩
end
/-! ## methods -/
/-- a class of the program whose instances are plain -/
structure ClsAt (K : PySem.W.Frag) (mg : Str → Option Value) (x : Str) : Prop where
  gl : mg x = some (.ref (He.ga K x))
  cls : Cls K (He.ga K x)
/-- the receiver of a method: an instance of the class -/
def RecvK (K : PySem.W.Frag) (C m : Str) (x : V) (H : Hp) (R : Hp → Prop) : Prop := ∃ a dx fs, x = .ref a ∧ H a = some (.ins (He.ga K C) dx fs) ∧ fs.lookup m = none ∧ R H
def tMethA (K : PySem.W.Frag) (C m : Str) (sp : Sp) (E : St → XK) (ta : TE) (t : TA) : TE := fun σ H Q => ta σ H fun x H1 => RecvK K C m x H1 fun H2 => t σ H2 fun vs H3 => sp (x :: vs) H3 Q (E σ)
section
variable {X : Cx} {CX : CXT} {K : PySem.W.Frag} {C m : Str} {k j : Nat} {ps : List Str} {sp : Sp} {E : St → XK} {W : WX} {apos pos : Pos} {o e : Expr} {es : List Expr} {ta : TE} {t : TA} {pl : Sem Bool}
theorem pe_methS1 (M : MethAt X.prog X.w X.K X.mg X.base CX C m j ps sp) (c : ClsAt X.K X.mg C) (hr : Room k X.A) (hx : ∀ σ, PassesAt CX X σ (E σ)) (ho : PE X o ta) (ha : PA X (e :: es) t) (hjk : j ≤ k := by decide) (hK : X.K = K := by rfl)
    (hst : starEach (e :: es) X.env = (false, eval e X.env) :: starEach es X.env := by rfl) (hpl : (backTo pos (starEach es X.env)).any (·.1) = false := by rfl)
    (ht : eval (.Call (.Attribute o m apos) (e :: es) [] pos) X.env = (do
      let ov ← eval o X.env
      standAt apos.atName
      let (f, first) ← holding [ov] (getMethod ov m pl)
      callWith pos f first (backTo pos (starEach (e :: es) X.env)) (backToKw pos (keywordEach [] X.env))) := by rfl) :
    PE X (.Call (.Attribute o m apos) (e :: es) [] pos) (tMethA K C m sp E ta t) := by
  subst hK
  obtain ⟨fd, F, B⟩ := M.ok
  refine ⟨fun pins s σ H Q I h => ?_⟩
  refine PySem.W.methodCall_KW (pl := pl) (thn (ho.run pins s σ H _ I h) fun u s1 ⟨x, H1, I1, rx, a, dx, fs, ex, ea, l, q⟩ => ?_) ht
  subst ex
  obtain rfl : u = Value.ref a := rx
  refine getmeth_ok I1 ea c.cls M.me l (PySem.W.callWith_K (first := [.ref a]) (h₀ := X.base) I.ok.mod.kin M.me.kp (thn (ha.run pos pins s1 σ H1 _ I1 q) fun us s2 ⟨vs, H2, I2, r, q2⟩ => ⟨I2.kIn, ?_⟩) hst hpl)
  exact run_fnS (us := .ref a :: us) (vs := .ref a :: vs) (F.mono hjk) hr B (hx σ) I2 (.cons rfl r) q2
theorem pe_methS0 (M : MethAt X.prog X.w X.K X.mg X.base CX C m j ps sp) (c : ClsAt X.K X.mg C) (hr : Room k X.A) (hx : ∀ σ, PassesAt CX X σ (E σ)) (ho : PE X o ta) (hjk : j ≤ k := by decide) (hK : X.K = K := by rfl)
    (ht : eval (.Call (.Attribute o m apos) [] [] pos) X.env = (do
      let ov ← eval o X.env
      standAt apos.atName
      let (f, first) ← holding [ov] (getMethod ov m pl)
      callWith pos f first (backTo pos (starEach [] X.env)) (backToKw pos (keywordEach [] X.env))) := by rfl) :
    PE X (.Call (.Attribute o m apos) [] [] pos) (tMethA K C m sp E ta tNil) := by
  subst hK
  obtain ⟨fd, F, B⟩ := M.ok
  refine ⟨fun pins s σ H Q I h => ?_⟩
  refine PySem.W.methodCall_KW (pl := pl) (thn (ho.run pins s σ H _ I h) fun u s1 ⟨x, H1, I1, rx, a, dx, fs, ex, ea, l, q⟩ => ?_) ht
  subst ex
  obtain rfl : u = Value.ref a := rx
  exact getmeth_ok I1 ea c.cls M.me l (PySem.W.callWith_K0 (first := [.ref a]) I1.kIn M.me.kp (run_fnS (us := [.ref a]) (vs := [.ref a]) (F.mono hjk) hr B (hx σ) I1 (.cons rfl .nil) q))
end
/-- where nothing is let out -/
theorem at0 {X : Cx} : ∀ σ : St, PassesAt CX0 X σ E0 := fun _ _ _ _ _ _ _ h => h.elim
theorem atE {X : Cx} : ∀ σ : St, PassesAt (L2.CX X.prog X.w) X σ E0 := fun σ pins H s e s' I h => by
  obtain ⟨_, _, _, _, _, _, _, _, _, _, _, _, z⟩ := h
  exact z.elim
theorem atW {X : Cx} {W : WX} (tk : Takes X W) : ∀ σ : St, PassesAt (L2.CX X.prog X.w) X σ (WE W σ) := fun σ => passAt tk σ
section
variable {K : PySem.W.Frag} {C m : Str} {σ : St} {H : Hp} {Q : VK} {sp : Sp} {E : St → XK} {ta : TE} {t : TA} {a dx : Addr} {fs : List (Str × V)} {R : Hp → Prop}
theorem c_meth (h : ta σ H fun x H1 => RecvK K C m x H1 fun H2 => t σ H2 fun vs H3 => sp (x :: vs) H3 Q (E σ)) : tMethA K C m sp E ta t σ H Q := h
theorem c_recv (h : H a = some (.ins (He.ga K C) dx fs)) (l : fs.lookup m = none) (q : R H) : RecvK K C m (.ref a) H R := ⟨a, dx, fs, rfl, h, l, q⟩
end
/-! ## new instances -/
def NewK (K : PySem.W.Frag) (C : Str) (sp : Sp) (vs : List V) (H1 : Hp) (Q : VK) (E : XK) : Prop := ∀ x dx, H1 x = none → H1 dx = none → dx ≠ x →
  sp (.ref x :: vs) (upd (upd H1 dx (.own x)) x (.ins (He.ga K C) dx [])) (fun v H2 => v = .non ∧ Q (.ref x) H2) E
def tNewA (K : PySem.W.Frag) (C : Str) (sp : Sp) (E : St → XK) (t : TA) : TE := fun σ H Q => t σ H fun vs H1 => NewK K C sp vs H1 Q (E σ)
theorem c_newA {K : PySem.W.Frag} {C : Str} {sp : Sp} {E : St → XK} {t : TA} {σ : St} {H : Hp} {Q : VK} (h : t σ H fun vs H1 => NewK K C sp vs H1 Q (E σ)) : tNewA K C sp E t σ H Q := h
section
variable {X : Cx} {CX : CXT} {K : PySem.W.Frag} {C : Str} {k j : Nat} {ps : List Str} {sp : Sp} {E : St → XK} {p pos : Pos} {e : Expr} {es : List Expr} {t : TA}
theorem pe_newS (M : MethAt X.prog X.w X.K X.mg X.base CX C "__init__" j ps sp) (mk : Mk X.K (He.ga X.K C) (He.ma X.K (He.ga X.K C) "__init__")) (c : ClsAt X.K X.mg C) (hr : Room (k + 1) X.A) (hx : ∀ σ, PassesAt CX X σ (E σ)) (ha : PA X (e :: es) t)
    (hjk : j ≤ k := by decide) (hK : X.K = K := by rfl) (hg : Gl X C := by rfl)
    (hdb : (C == ("__debug__" : Str)) = false := by decide) (he : starEach (e :: es) X.env = (false, eval e X.env) :: starEach es X.env := by rfl) (hpl : (backTo pos (starEach es X.env)).any (·.1) = false := by rfl) :
    PE X (.Call (.Name C p) (e :: es) [] pos) (tNewA K C sp E t) := by
  subst hK
  obtain ⟨fd, F0, B⟩ := M.ok
  have F := F0.mono hjk
  refine ⟨fun pins s σ H Q I h => ?_⟩
  refine wpAny_Call_Name_kw (ld_glob I hg c.gl ?_ hdb)
  refine PySem.W.callWith_K (h₀ := X.base) I.ok.mod.kin mk.kp (thn (ha.run pos pins s σ H _ I h) fun us s1 ⟨vs, H1, I1, r, q⟩ => ⟨I1.kIn, ?_⟩) he hpl
  have hq := q (s1.heap.objs.size + 1) s1.heap.objs.size (I1.hok.fresh (Nat.le_succ _)) (I1.hok.fresh (Nat.le_refl _)) (Nat.ne_of_lt (Nat.lt_succ_self _))
  have I2 := Inv.made (C := He.ga X.K C) I1
  have r2 : Vals (V.ref (s1.heap.objs.size + 1) :: vs) (Value.ref (s1.heap.objs.size + 1) :: us) := .cons rfl r
  have hl : ((Value.ref (s1.heap.objs.size + 1) :: us) ++ []).length = ps.length := by
    rw [List.append_nil, ← r2.length]
    exact F.len _ _ _ _ hq
  have b := B _ (Value.ref (s1.heap.objs.size + 1) :: us) I2.kIn hl
  rw [List.append_nil] at b
  refine wpAny_call (make_map (f := He.ma X.K (He.ga X.K C) "__init__") I1.kIn mk.makes mk.init (beq_iff_eq.mp mk.fn) (codeAny_mono (F.run _ X.stack _ _ ⟨Value.ref (s1.heap.objs.size + 1) :: us, []⟩ (Value.ref (s1.heap.objs.size + 1) :: us) _ _ (E σ)
    (hr.make (He.ga X.K C) us []) (I2.env0.make (He.ga X.K C) us []) b r2 hq) fun rr s' hq' => ?_))
  cases rr with
  | error er => exact hx σ pins _ _ er s' I2 hq'
  | ok fl =>
    cases fl with
    | ret u =>
      obtain ⟨v, H', I3, rv, ev, q3⟩ := I2.after hq'
      subst ev
      exact ⟨rv, ⟨V.ref (s1.heap.objs.size + 1), H', I3, rfl, q3⟩⟩
    | next => exact False.elim hq'
    | brk => exact False.elim hq'
    | cont => exact False.elim hq'
end
end Sa

/-! try with several except clauses, with and without names. -/
namespace Sa
open PySem PySem.Spec L2
/-- one clause: the class it names, the slot of its name (if it has one), its suite's reading -/
structure Cl where
  c : Value
  i : Option Nat
  ts : Addr → Value → Option Addr → TS
def setO : Option Nat → St → Option V → St
  | none, σ, _ => σ
  | some i, σ, v => σ.set i v
def endO (i : Option Nat) (D : Ends) : Ends := { nx := fun σ' H' => D.nx (setO i σ' none) H', rt := D.rt, bk := fun σ' H' => D.bk (setO i σ' none) H', ct := fun σ' H' => D.ct (setO i σ' none) H' }
/-- what the clauses wish of an error -/
def wCl (K : PySem.W.Frag) (Wout : WX) (D : Ends) : List Cl → WX
  | [] => Wout
  | q :: r => fun cls d σ H => ∃ b, PySem.W.exmOne K cls q.c = some b ∧ (b = true → ∀ a, H a = none → q.ts a cls d (endO q.i D) (setO q.i σ (some (.ref a))) H) ∧ (b = false → wCl K Wout D r cls d σ H)
inductive ClsOk (X : Cx) : List ExceptHandler → List Cl → Prop
  | nil : ClsOk X [] []
  | bare {x : Str} {c : Value} {ts : Addr → Value → Option Addr → TS} {b₀ : Stmt} {suite : List Stmt} {np pos' : Pos} {hds : List ExceptHandler} {l : List Cl} (hc : Names X x c)
      (hsu : ∀ (a : Addr) (oe : Obj) (cls : Value) (d : Option Addr) (pn : List (Addr × Obj)), Zc cls d oe → (∃ vs, oe.data = .fields vs) → PSs (X.suite a ((a, oe) :: pn)) (b₀ :: suite) (ts a cls d)) (r : ClsOk X hds l) :
      ClsOk X (.ExceptHandler (some (.Name x np)) none (b₀ :: suite) pos' :: hds) (⟨c, none, ts⟩ :: l)
  | named {x n : Str} {i : Nat} {c : Value} {ts : Addr → Value → Option Addr → TS} {b₀ : Stmt} {suite : List Stmt} {np pos' : Pos} {hds : List ExceptHandler} {l : List Cl} (hi : X.N[i]? = some n) (hln : X.env.kindOf n = some .local) (hc : Names X x c)
      (hsu : ∀ (a : Addr) (oe : Obj) (cls : Value) (d : Option Addr) (pn : List (Addr × Obj)), Zc cls d oe → (∃ vs, oe.data = .fields vs) → PSs (X.suite a ((a, oe) :: pn)) (b₀ :: suite) (ts a cls d)) (r : ClsOk X hds l) :
      ClsOk X (.ExceptHandler (some (.Name x np)) (some n) (b₀ :: suite) pos' :: hds) (⟨c, some i, ts⟩ :: l)
section
variable {X : Cx} {body : List Stmt} {h₀ : ExceptHandler} {hds : List ExceptHandler} {l : List Cl} {pos : Pos} {tb : WX → TS} {Wout : WX}
theorem ps_tryN (hs : X.stack = X.env :: X.outer) (hf : X.env.frame = some X.env.locals) (hN : X.N.Nodup) (tk : Takes X Wout)
    (hb : ∀ (W : WX) (pn : List (Addr × Obj)) (xe : Value → Shared → Prop), Takes (X.tr pn xe) W → PassesOwn (model X.prog X.w) X.A X.env xe → PSs (X.tr pn xe) body (tb W))
    (hh : ClsOk X (h₀ :: hds) l) : PS X (.Try body (h₀ :: hds) [] [] pos) (fun D σ H => tb (wCl X.K Wout D l) D σ H) := by
  constructor
  intro pins s σ H D I h
  have ok := I.ok
  have hfr : X.A.frames = some (X.env :: X.outer) := by rw [ok.frames, hs]
  refine wpAny_Try_except (wpAny_mono ((hb (wCl X.K Wout D l) (X.pn ++ pins) (fun e s₁ => wpAny (model X.prog X.w) X.A (noteFrame e X.env) (fun _ s₂ => wpAny (model X.prog X.w) X.A (setFlight e none) (fun _ s₃ =>
    wpAny (model X.prog X.w) X.A (handleBy e X.env (h₀ :: hds)) (SP X pins D) X.xe s₃) X.xe s₂) X.xe s₁) (fun u s' xx => ?_) PassesOwn.looking).run [] s σ H D (I.toTry _) h) (fun f s1 hsp => ?_) (fun e s1 he => he))
  · obtain ⟨a, B, sI, pins', σ', H', cls, d, rfl, J', nb, up, sky, na, os, ag, w⟩ := xx
    have J : Inv X pins σ' H' sI := J'.ofTry ok
    have sky' : Sky B (X.env :: X.outer) a (Zc cls d) X.env.locals s'.heap := by rw [← hs]; exact sky
    show wpAny (model X.prog X.w) X.A (noteFrame (.ref a) X.env) _ _ _
    refine Sky.land Zc.steady hfr hf sky' fun h3 fl3 up3 => ?_
    have J3 : Inv X pins σ' H' { s' with heap := h3 } := J.landed nb fl3.1 (up.trans up3) os ag
    obtain ⟨oe3, vs3, he3, hz3, hd3⟩ := fl3.there
    have nfr : a ∉ frs (X.env :: X.outer) := fun hm => by
      obtain ⟨_, o', e', hnf⟩ := fl3.2.2.1.mem hm
      rw [he3] at e'
      cases e'
      exact hnf _ hd3
    have nL : a ≠ X.env.locals := fun z => nfr (List.mem_filterMap.mpr ⟨X.env, List.mem_cons_self, by rw [hf, z]⟩)
    have nF : a ∉ X.fs := fun hm => by
      obtain ⟨e, he, q⟩ := List.mem_filterMap.mp hm
      exact nfr (List.mem_filterMap.mpr ⟨e, List.mem_cons_of_mem _ he, q⟩)
    have S3 := J3.suite he3 hd3 na nL nF
    have LT : PySem.W.Looks (model X.prog X.w) h3 (typeOf (.ref a)) cls := fun A Q E s k q => wpAny_typeOf_ref (k _ _ he3) (by rw [hz3.1]; exact q)
    have test : ∀ {x : Str} {c : Value} {np : Pos} {Q : Value → Shared → Prop} {E : Value → Shared → Prop}, Names X x c → Q c { s' with heap := h3 } → wpAny (model X.prog X.w) (X.A.mark (some (.ref a))) (eval (.Name x np) X.env) Q E { s' with heap := h3 } := by
      intro x c np Q E hc q
      obtain ⟨hg, hdbg, hm | ⟨hm, hv, hnn⟩⟩ := hc
      · exact ld_glob (X := X.suite a ((a, oe3) :: (X.pn ++ pins))) S3 hg hm q hdbg
      · exact ld_blt (X := X.suite a ((a, oe3) :: (X.pn ++ pins))) S3 hg hm hv q hnn hdbg
    suffices go : ∀ {hds' : List ExceptHandler} {l' : List Cl}, ClsOk X hds' l' → wCl X.K Wout D l' cls d σ' H' → wpAny (model X.prog X.w) X.A (handleBy (.ref a) X.env hds') (SP X pins D) X.xe { s' with heap := h3 } from go hh w
    intro hds' l' hk
    induction hk with
    | nil =>
      intro w
      refine wpAny_handleBy_nil ?_
      obtain ⟨k1, k2, k3, oe, vs, T, oT, ts', he, hz, hd, h1, hr⟩ := id fl3
      unfold PySem.passOn
      refine wpAny_bind (wpAny_field he hd h1 ?_)
      rw [if_neg (show ¬ ((Value.ref T == Value.none) = true) from by simp)]
      have fin : wpAny (model X.prog X.w) X.A (setFlight (.ref a) X.env.frame) (fun _ s4 => wpAny (model X.prog X.w) X.A (throw (.ref a) : Sem Flow) (SP X pins D) X.xe s4) X.xe { s' with heap := h3 } := by
        rw [hf]
        exact HandSPX.setFlight_upZ fl3 fun h4 hh4 up4 => wpAny_throw (tk _ _ ⟨a, B, sI, pins, σ', H', cls, d, rfl, J, nb, (up.trans up3).trans up4, .inr (.inr (by rw [hs]; exact hh4)), na, os, ag, w⟩)
      first
        | exact wpAny_bind (wpAny_pure (wpAny_bind fin))
        | exact wpAny_bind fin
    | @bare x c ts b₀ suite np pos' hds2 l2 hc hsu r ih =>
      intro w
      obtain ⟨b, hb1, hyes, hno⟩ := w
      refine wpAny_handleBy_cons (codeAny_handlers_test ?_) (by intro q; cases q)
      refine test hc ((PySem.W.exm_one (M := model X.prog X.w) (J3.kIn) LT hb1).here ?_)
      cases b with
      | true =>
        refine codeAny_handlers_suite (HandSPX.lands_againZ fl3 fun h4 fl4 up4 => ?_)
        have J4 : Inv X pins σ' H' { s' with heap := h4 } := J.landed nb fl4.1 ((up.trans up3).trans up4) os ag
        obtain ⟨oe4, vs4, he4, hz4, hd4⟩ := fl4.there
        refine wpAny_mono ((hsu a oe4 cls d (X.pn ++ pins) hz4 ⟨_, hd4⟩).run [] _ _ H' _ (J4.suite he4 hd4 na nL nF) (hyes rfl a na)) (fun f s6 hsp => ?_) (fun _ _ z => False.elim z)
        cases f with
        | next => obtain ⟨σ6, H6, S6, q6⟩ := hsp; exact ⟨_, _, S6.unsuite ok, q6⟩
        | brk => obtain ⟨σ6, H6, S6, q6⟩ := hsp; exact ⟨_, _, S6.unsuite ok, q6⟩
        | cont => obtain ⟨σ6, H6, S6, q6⟩ := hsp; exact ⟨_, _, S6.unsuite ok, q6⟩
        | ret u => obtain ⟨v6, σ6, H6, S6, r6, q6⟩ := hsp; exact ⟨_, _, _, S6.unsuite ok, r6, q6⟩
      | false =>
        show wpAny _ X.A (handleBy (.ref a) X.env hds2) _ _ _
        exact ih (hno rfl)
    | @named x n i c ts b₀ suite np pos' hds2 l2 hi hln hc hsu r ih =>
      intro w
      obtain ⟨b, hb1, hyes, hno⟩ := w
      refine wpAny_handleBy_cons (codeAny_handlers_test ?_) (by intro q; cases q)
      refine test hc ((PySem.W.exm_one (M := model X.prog X.w) (J3.kIn) LT hb1).here ?_)
      cases b with
      | true =>
        refine codeAny_handlers_suite_as (HandSPX.lands_againZ fl3 fun h4 fl4 up4 => ?_)
        have J4 : Inv X pins σ' H' { s' with heap := h4 } := J.landed nb fl4.1 ((up.trans up3).trans up4) os ag
        obtain ⟨oe4, vs4, he4, hz4, hd4⟩ := fl4.there
        have S4 := J4.suite he4 hd4 na nL nF
        refine store_ok (X := X.suite a ((a, oe4) :: (X.pn ++ pins))) (v := .ref a) S4 hN hi (show Loc X.env.scope n from .inl hln) rfl (fun s5 S5 => ?_) (.inr hln)
        refine wpAny_mono ((hsu a oe4 cls d (X.pn ++ pins) hz4 ⟨_, hd4⟩).run [] s5 _ H' _ S5 (hyes rfl a na)) (fun f s6 hsp => ?_) (fun _ _ z => False.elim z)
        have end_ : ∀ {σ6 : St} {H6 : Hp} {Q : Shared → Prop}, Inv (X.suite a ((a, oe4) :: (X.pn ++ pins))) [] σ6 H6 s6 → (∀ s7, Inv X pins (σ6.set i none) H6 s7 → Q s7) →
            wpAny (model X.prog X.w) X.A (do bindName X.env n .none; unbindBehindTheSuite X.env n pos') (fun _ s7 => Q s7) X.xe s6 := fun {σ6 H6 Q} S6 hq => gone_ok (S6.unsuite ok) hN hi hln hq
        cases f with
        | next => obtain ⟨σ6, H6, S6, q6⟩ := hsp; exact end_ S6 fun s7 J7 => ⟨_, _, J7, q6⟩
        | brk => obtain ⟨σ6, H6, S6, q6⟩ := hsp; exact end_ S6 fun s7 J7 => ⟨_, _, J7, q6⟩
        | cont => obtain ⟨σ6, H6, S6, q6⟩ := hsp; exact end_ S6 fun s7 J7 => ⟨_, _, J7, q6⟩
        | ret u => obtain ⟨v6, σ6, H6, S6, r6, q6⟩ := hsp; exact end_ S6 fun s7 J7 => ⟨_, _, _, J7, r6, q6⟩
      | false =>
        show wpAny _ X.A (handleBy (.ref a) X.env hds2) _ _ _
        exact ih (hno rfl)
  · cases f with
    | next => obtain ⟨σ', H', J', q⟩ := hsp; exact wpAny_execs_nil ⟨σ', H', J'.ofTry ok, q⟩
    | brk => obtain ⟨σ', H', J', q⟩ := hsp; exact ⟨σ', H', J'.ofTry ok, q⟩
    | cont => obtain ⟨σ', H', J', q⟩ := hsp; exact ⟨σ', H', J'.ofTry ok, q⟩
    | ret u => obtain ⟨v, σ', H', J', r, q⟩ := hsp; exact ⟨v, σ', H', J'.ofTry ok, r, q⟩
end
section
variable {K : PySem.W.Frag} {Wout : WX} {D : Ends} {σ : St} {H : Hp} {cls : Value} {d : Option Addr} {q : Cl} {r : List Cl}
theorem c_hit (he : PySem.W.exmOne K cls q.c = some true) (h : ∀ a, H a = none → q.ts a cls d (endO q.i D) (setO q.i σ (some (.ref a))) H) : wCl K Wout D (q :: r) cls d σ H := ⟨true, he, fun _ => h, fun z => by cases z⟩
theorem c_miss (he : PySem.W.exmOne K cls q.c = some false) (h : wCl K Wout D r cls d σ H) : wCl K Wout D (q :: r) cls d σ H := ⟨false, he, (fun z => nomatch z), fun _ => h⟩
end
end Sa

/-! len(set(texts)) (a rule of the library turned from whole numbers to texts). -/
namespace Sa
open PySem PySem.Spec
def stepT (σ : List Str) (v : Str) : List Str := if σ.any (· == v) then σ else σ ++ [v]
/-- each text once -/
def ded (xs : List Str) : List Str := xs.foldl stepT []
theorem stepT_any (σ : List Str) (v k : Str) : (stepT σ v).any (· == k) = (σ.any (· == k) || decide (k = v)) := by
  unfold stepT
  by_cases h : σ.any (· == v) = true
  · rw [if_pos h]
    by_cases e : k = v
    · subst e; rw [h]; simp
    · simp [e]
  · rw [if_neg h, List.any_append]
    by_cases e : k = v
    · subst e; simp
    · have hb : (v == k) = false := by simpa [beq_iff_eq] using (fun h' : v = k => e h'.symm)
      simp [hb, e]
theorem stepT_length (σ : List Str) (v : Str) : (stepT σ v).length = if σ.any (· == v) then σ.length else σ.length + 1 := by
  unfold stepT; split <;> simp
theorem ded_snoc (xs : List Str) (v : Str) : ded (xs ++ [v]) = stepT (ded xs) v := by unfold ded; rw [List.foldl_append]; rfl
theorem ded_take {xs : List Str} {i : Nat} (h : i < xs.length) : ded (xs.take (i + 1)) = stepT (ded (xs.take i)) (xs.getD i Str.empty) := by
  have e : xs[i]? = some (xs.getD i Str.empty) := by rw [List.getD_eq_getElem?_getD, List.getElem?_eq_getElem h]; rfl
  rw [take_succ' e, ded_snoc]
theorem ded_le (xs : List Str) : (ded xs).length ≤ xs.length := by
  suffices h : ∀ i, (ded (xs.take i)).length ≤ i by
    have := h xs.length
    rwa [List.take_length] at this
  intro i
  induction i with
  | zero => rw [List.take_zero]; exact Nat.le_refl _
  | succ i ih =>
    by_cases hi : i < xs.length
    · rw [ded_take hi, stepT_length]; split <;> omega
    · rw [List.take_of_length_le (by omega)] at ih ⊢
      omega
section
open PyProof.Rows
variable {prog : Program} {w : World} {A : Around} {R : Result → Shared → Prop} {I : Addr} {fp wr : List Addr} {G : Array GenState → Array GenState → Prop} {n : Nat} {P : Nat → Value → Prop} {St : Nat → Shared → Prop}
theorem set_loopT (W : WalksS prog w A.in1 I fp wr G n P St) (S : Addr) (hSf : S ∉ fp)
    (xs : List Str) (hval : ∀ i v, P i v → ∃ t, v = .str (xs.getD i Str.empty) t) (hsz : xs.length = n) (hb : n + 1 < scanBound) :
    ∀ (k i : Nat) (s : Shared), n - i = k → i ≤ n → St i s →
      s.heap.SetOf (strKind prog w) S (fun k' => (ded (xs.take i)).any (· == k')) (ded (xs.take i)).length →
      (∀ s', Moved (S :: wr) G s s' → s'.heap.SetOf (strKind prog w) S (fun k' => (ded (xs.take n)).any (· == k')) (ded (xs.take n)).length → R (.ok (.ret .none)) s') →
      codeAny (model prog w) A (.builtin "set.update.loop" ⟨[.ref S, .ref I], []⟩) R s := by
  have hSw : S ∉ wr := fun h => hSf (W.sub _ h)
  have hsub : ∀ b ∈ wr, b ∈ S :: wr := fun b hb => List.mem_cons_of_mem _ hb
  intro k
  induction k with
  | zero =>
    intro i s hk hi hst hS hR
    have hin : i = n := by omega
    subst hin
    refine codeAny_builtin PyProof.Rows.F.entry_set_update_loop ?_
    rw [Around.under_plainId PyProof.Rows.F.plain_set_update_loop _]
    show wpAny _ A.in1 (pyNext (.ref I) >>= _) _ _ s
    refine wpAny_bind (W.done s _ _ hst fun s' hm => ?_)
    show wpAny _ A.in1 (ret Value.none) _ _ s'
    exact wpAny_pure (hR s' (hm.mono hsub) (by
      obtain ⟨o, es, ep, t, ho, rest⟩ := hS
      exact ⟨o, es, ep, t, hm.heap S _ hSw ho, rest⟩))
  | succ k ih =>
    intro i s hk hi hst hS hR
    have hlt : i < n := by omega
    refine codeAny_builtin PyProof.Rows.F.entry_set_update_loop ?_
    rw [Around.under_plainId PyProof.Rows.F.plain_set_update_loop _]
    show wpAny _ A.in1 (pyNext (.ref I) >>= _) _ _ s
    refine wpAny_bind (W.item i s _ _ hlt hst fun v s' hP hst' hm => ?_)
    obtain ⟨t, rfl⟩ := hval i v hP
    have hS' : s'.heap.SetOf (strKind prog w) S (fun k' => (ded (xs.take i)).any (· == k')) (ded (xs.take i)).length := by
      obtain ⟨o, es, ep, tb, ho, rest⟩ := hS
      exact ⟨o, es, ep, tb, hm.heap S _ hSw ho, rest⟩
    show wpAny _ A.in1 (holding [Value.str (xs.getD i Str.empty) t] (setAdd S (.str (xs.getD i Str.empty) t)) >>= _) _ _ s'
    refine wpAny_bind (wpAny_holding ?_)
    unfold setAdd
    refine wpAny_holding ?_
    refine wpAny_bind ((strKind prog w).pyHash (k := xs.getD i Str.empty) (strKind_is _ _ _ _) ?_)
    have hroom : (ded (xs.take i)).length + 1 < scanBound := by have := ded_le (xs.take i); rw [List.length_take] at this; omega
    refine wpAny_setAddHashed_of (knd := strKind prog w) (s := { s' with toks := s'.toks + 1 }) (strKind_is _ _ _ _) rfl hS' hroom fun h' hsb hS2 => ?_

    have hSi : h'.SetOf (strKind prog w) S (fun k' => (ded (xs.take (i + 1))).any (· == k')) (ded (xs.take (i + 1))).length :=
      SetOf_congr hS2 (fun k' => by rw [ded_take (by omega), stepT_any]) (by rw [ded_take (by omega), stepT_length])
    refine wpAny_pure ⟨plainId_quiet PyProof.Rows.F.plain_set_update_loop _, ih (i + 1) _ (by omega) hlt (W.frame _ s' _ _ hst' (Nat.le_succ _) fun b hb o e => ?_) hSi fun s'' hm'' hS'' => ?_⟩
    · rw [hsb.2 b (fun h : b = S => hSf (by rw [← h]; exact hb))]; exact e
    · refine hR s'' (Moved.trans W.gtrans ((hm.mono hsub).then_heap (Nat.le_succ _) fun b o hb e => ?_) hm'') hS''
      rw [hsb.2 b (fun h : b = S => hb (by rw [h]; exact List.mem_cons_self))]; exact e
end
section
variable {prog : Program} {w : World} {A : Around} {E : Value → Shared → Prop} {s : Shared}
set_option maxRecDepth 100000 in
set_option maxHeartbeats 3200000 in
theorem call_set_texts {l : Addr} {items : Array Value} {xs : List Str} {Q : Value → Shared → Prop}
    (hh : A.handled = none) (hl : s.heap.IsList l items) (hi : PyProof.Rows.StrsAre items.toList xs) (hsz : xs.length = items.size) (hb : items.size + 1 < scanBound)
    (h : ∀ (h' : Heap) (tk : Nat), h'.SetOf (strKind prog w) s.heap.objs.size (fun k' => (ded (xs.take items.size)).any (· == k')) (ded (xs.take items.size)).length →
      (∀ b o, b < s.heap.objs.size → s.heap.get? b = some o → h'.get? b = some o) → Q (.ref s.heap.objs.size) { s with heap := h', toks := tk }) :
    wpAny (model prog w) A (call (.type "set") [.ref l]) Q E s := by
  obtain ⟨c, tl, hmro⟩ := F.called_set.mro
  have hmade := F.called_set.made
  have hsub := F.called_set.sub
  refine wpAny_call (codeAny_of_tree ?_)
  show wpAny _ _ (callAny (.type "set") _) _ _ _
  refine wpAny_pure ⟨Code.quiet_builtin _ (by decide +kernel), codeAny_builtin F.entry_type_call ?_⟩
  rw [Around.under_plain (weight_type_call_type "set" [.ref l] []) rfl]
  have h1 := F.called_set.notType
  have h2 := F.called_set.canCreate
  have hct := F.typeCall_set_1 (.ref l)
  repeat (any_goals (first | assumption | wp_step))

  refine codeAny_mono (code_set_new_1 (.ref l) (E := E) (Q₁ := fun obj s₁ => ∃ led : Bool, obj = .ref s.heap.objs.size ∧ s₁ = { s with heap := s.heap.push { cls := .type "set", dict := none, data := .set #[] 0 (.fresh 0 0 led) } }) fun led => ⟨led, rfl, rfl⟩) fun r s₁ hr => ?_
  cases r with
  | error e => exact hr
  | ok fl =>
    cases fl with
    | ret obj =>
      obtain ⟨led, rfl, rfl⟩ := hr
      have hS : (s.heap.push { cls := .type "set", dict := none, data := .set #[] 0 (.fresh 0 0 led) }).get? s.heap.objs.size = some { cls := .type "set", dict := none, data := .set #[] 0 (.fresh 0 0 led) } := Heap.get?_push_size _ rfl
      have hT : Shared.TypeIs { s with heap := s.heap.push { cls := .type "set", dict := none, data := .set #[] 0 (.fresh 0 0 led) } } (.ref s.heap.objs.size) "set" := ⟨_, hS, rfl⟩
      have hli := F.called_set.init.lookup
      have hbi := F.called_set.init.bind (.ref s.heap.objs.size)
      repeat (any_goals (first | assumption | wp_step))

      refine codeAny_mono (codeAny_call_builtin (R := wants (fun r s₂ => r = .none ∧ ∃ h' tk, s₂ = { s with heap := h', toks := tk } ∧
          h'.SetOf (strKind prog w) s.heap.objs.size (fun k' => (ded (xs.take items.size)).any (· == k')) (ded (xs.take items.size)).length ∧
          (∀ b o, b < s.heap.objs.size → s.heap.get? b = some o → h'.get? b = some o)) E) F.called_set.init.plain F.entry_set_init (check_set_init_1 hT ?_)) fun r₂ s₂ hr₂ => ?_
      · obtain ⟨ol, hol, hcl, nl, hdl⟩ := hl
        obtain ⟨ocls, odict, odata, oslots⟩ := ol
        simp only at hcl hdl
        subst hcl; subst hdl
        have hol' : (s.heap.push { cls := .type "set", dict := none, data := .set #[] 0 (.fresh 0 0 led) }).get? l = some { cls := .type "list", dict := odict, data := .seq items nl, slots := oslots } := Heap.get?_push_of_some _ hol
        have hsls := F.sub_list_set
        have hslf := F.sub_list_frozenset
        have hne : (Value.type "list" == Value.type "dict") = false := by decide
        have hl1 : (s.heap.push { cls := .type "set", dict := none, data := .set #[] 0 (.fresh 0 0 led) }).IsList l items := ⟨_, hol', rfl, nl, rfl⟩
        unfold Builtin.«set.__init__» noKeywords Builtin.Frozenset.updateFrom
        generalize hPI : pyIter = PI
        wp_walk
        subst hPI

        refine wpAny_pyIter_list hl1 ?_
        refine wpAny_bind (wpAny_runValue ?_)
        have hlS : l < s.heap.objs.size := Heap.lt_size hol
        have hh3 : A.in1.in1.in1.handled = none := by simp [hh]
        have hneI : l ≠ (s.heap.push { cls := .type "set", dict := none, data := .set #[] 0 (.fresh 0 0 led) }).objs.size := by
          rw [Heap.size_push]; exact Nat.ne_of_lt (Nat.lt_succ_of_lt hlS)
        have hSf : s.heap.objs.size ∉ [(s.heap.push { cls := .type "set", dict := none, data := .set #[] 0 (.fresh 0 0 led) }).objs.size, l] := by
          rw [Heap.size_push]; simp only [List.mem_cons, List.mem_singleton, List.not_mem_nil, or_false, not_or]
          exact ⟨Nat.ne_of_lt (Nat.lt_succ_self _), Nat.ne_of_gt hlS⟩
        have hval : ∀ (i : Nat) (v : Value), items[i]? = some v → ∃ t, v = .str (xs.getD i Str.empty) t := fun i v hv =>
          SS.strs_at hi i v (by rw [Array.getElem?_toList]; exact hv)
        refine set_loopT ((Walks.list hh3 _ l hneI items).toS) s.heap.objs.size
          hSf xs hval hsz hb (items.size - 0) 0 _ (by omega) (Nat.zero_le _)
          ⟨⟨_, Heap.get?_push_size _ rfl, rfl, rfl⟩, (hl1.push _)⟩ ?hS0 ?hR
        case hS0 =>
          have hget : ((s.heap.push { cls := .type "set", dict := none, data := .set #[] 0 (.fresh 0 0 led) }).push { cls := .type "list_iterator", data := .fields #[.ref l, .int 0 0] }).get? s.heap.objs.size
              = some { cls := .type "set", dict := none, data := .set #[] 0 (.fresh 0 0 led) } := Heap.get?_push_of_some _ hS
          exact PyProof.Rows.SetOf_congr ((PyProof.Rows.setObjOf_fresh (knd := strKind prog w) led).setOf hget (by unfold scanBound; omega)) (fun _ => by rw [List.take_zero]; rfl) (by rw [List.take_zero]; rfl)
        case hR =>
          intro s' hm hS'
          obtain ⟨h', g', d', tk', os'⟩ := s'
          have eg : g' = s.gens := hm.gens
          have ed : d' = s.drawn := hm.drawn
          have eo : os' = s.os := hm.os
          subst eg; subst ed; subst eo
          show wpAny _ _ _ _ _ _
          refine wpAny_pure ?_
          show wpAny _ _ (ret Value.none) _ _ _
          refine wpAny_pure ⟨rfl, h', tk', rfl, hS', fun b o hb e => ?_⟩
          have hb1 : b ≠ s.heap.objs.size := Nat.ne_of_lt hb
          have hb2 : b ≠ (s.heap.push { cls := .type "set", dict := none, data := .set #[] 0 (.fresh 0 0 led) }).objs.size := by
            rw [Heap.size_push]; exact Nat.ne_of_lt (Nat.lt_succ_of_lt hb)
          exact hm.heap b o (by simp only [List.mem_cons, List.mem_singleton, List.not_mem_nil, or_false, not_or]; exact ⟨hb1, hb2⟩) (Heap.get?_push_of_some _ (Heap.get?_push_of_some _ e))

      · cases r₂ with
        | error e => exact hr₂
        | ok fl₂ =>
          cases fl₂ with
          | ret r =>
            obtain ⟨rfl, h', tk, rfl, hS', hk'⟩ := hr₂
            repeat (any_goals (first | assumption | wp_step))
            exact h _ _ hS' hk'
          | _ => exact hr₂.elim
    | _ => exact hr.elim
end
end Sa

/-! len(set(texts)) as a reading; walks of lists or tuples; dicts of texts. -/
namespace Sa
open PySem L2
def tLenSetU (K : PySem.W.Frag) (ta : TE) : TE := fun σ H Q => ta σ H fun x H1 => ∃ (l : Addr) (xs : List Str), x = .ref l ∧ SqL K H1 l (xs.map V.str) ∧ xs.length ≤ 1000 ∧ Q (.int (ded xs).length) H1
theorem c_lenSet {K : PySem.W.Frag} {ta : TE} {σ : St} {H : Hp} {Q : VK} (h : ta σ H fun x H1 => ∃ (l : Addr) (xs : List Str), x = .ref l ∧ SqL K H1 l (xs.map V.str) ∧ xs.length ≤ 1000 ∧ Q (.int (ded xs).length) H1) : tLenSetU K ta σ H Q := h
theorem pe_lenSetU {X : Cx} {K : PySem.W.Frag} {a : Expr} {ta : TE} {p p2 q pos : Pos} (hc : X.calm = true) (hm : X.mg "len" = none) (hm2 : X.mg "set" = none) (ha : PE X a ta) (hK : X.K = K := by rfl) (hg : Gl X "len" := by rfl) (hg2 : Gl X "set" := by rfl)
    (na : starEach [a] X.env = (false, eval a X.env) :: starEach [] X.env := by rfl) : PE X (.Call (.Name "len" p) [.Call (.Name "set" p2) [a] [] q] [] pos) (tLenSetU K ta) := by
  subst hK
  constructor
  intro pins s σ H Q I h
  refine PyProof.Rows.Call_ (ld_blt I hg hm PySem.boot_len (PyProof.Rows.callWith_builtin1 (PyProof.Rows.args_cons ?_ rfl) rfl rfl))
  refine PyProof.Rows.Call_ (ld_blt I hg2 hm2 PySem.Pv.boot_set (PyProof.Rows.callWith_type1 (PyProof.Rows.args_cons (thn (ha.run pins s σ H _ I h) fun v s1 ⟨x, H1, I1, r1, q1⟩ => PyProof.Rows.args_nil ?_) na) na rfl))
  obtain ⟨l, xs, rfl, hq, h1, q1⟩ := q1
  cases r1
  obtain ⟨its, r, pl, hz⟩ := I1.list hq
  have hl : its.length = xs.length := by rw [← r.length, List.length_map]
  refine call_set_texts (xs := xs) (I1.ok.hd hc) pl.isList (by simpa using strsAre_of r) (by rw [List.size_toArray, hl]) (by rw [List.size_toArray, hl]; unfold scanBound; omega) fun h' tk hS hk => PyProof.Rows.args_nil ?_
  have hsz : its.toArray.size = xs.length := by rw [List.size_toArray, hl]
  rw [hsz, List.take_length] at hS
  obtain ⟨o, es, ep, t, ho, hex, hd, _, _, _, hf, hn⟩ := hS
  have I2 : Inv X pins σ H1 { s1 with heap := h', toks := tk } := I1.kept fun b o e => hk b o (Heap.lt_size e) e
  exact call_len_set ho hex hd hf (by rw [hn]; have := ded_le xs; omega) ⟨.int (ded xs).length, H1, I2.tok _, ⟨_, by rw [hn]⟩, q1⟩
/-! ## walks of a list or of a tuple -/
/-- whatever sequence it is -/
def Sq (K : PySem.W.Frag) (H : Hp) (a : Addr) (xs : List V) : Prop := SqL K H a xs ∨ SqT K H a xs
def iSeq (K : PySem.W.Frag) (te : TE) : TI := fun σ H R => te σ H fun x H1 => ∃ a, x = .ref a ∧ (((∃ xs, SqL K H1 a xs) ∧ R (Itl K a) H1) ∨ ((∃ xs, SqT K H1 a xs) ∧ R (Itt K a) H1))
theorem pi_seq {X : Cx} {K : PySem.W.Frag} {tg e : Expr} {te : TE} (he : PE X e te) (hK : X.K = K := by rfl) : PI X tg e (iSeq K te) := by
  subst hK
  constructor
  intro pins s σ H R I h
  refine thn (he.run pins s σ H _ I h) fun v s1 ⟨x, H1, I1, r1, a, ex, z⟩ => ?_
  subst ex
  cases r1
  have fp : ∀ b ∈ [s1.heap.objs.size], FpOk X pins H1 b := fun b hb => by
    rw [List.mem_singleton.mp hb]
    exact I1.fpOk (Nat.le_refl _) (I1.hok.fresh (Nat.le_refl _))
  rcases z with ⟨⟨xs, hq⟩, q⟩ | ⟨⟨xs, hq⟩, q⟩
  · obtain ⟨its, rv, p, hz⟩ := I1.list hq
    exact wpAny_pyIter_list p.isList ⟨_, [s1.heap.objs.size], _, _, H1, rfl, I1.kept (t' := s1.toks) fun b o e => Heap.get?_push_of_some _ e, turn_list a _, ⟨_, Heap.get?_push_size _ rfl, rfl, rfl⟩, fp, q⟩
  · obtain ⟨its, rv, p, hz⟩ := I1.tuple hq
    exact wpAny_pyIter_tuple (show s1.heap.IsTuple a its.toArray from p) ⟨_, [s1.heap.objs.size], _, _, H1, rfl, I1.kept (t' := s1.toks) fun b o e => Heap.get?_push_of_some _ e, turn_tuple a _, ⟨_, Heap.get?_push_size _ rfl, rfl, rfl⟩, fp, q⟩
section
variable {K : PySem.W.Frag} {σ : St} {H : Hp} {R : It → Hp → Prop} {te : TE} {a : Addr} {xs : List V} {g : TG} {tt : TT} {tb : TS} {D : Ends} {vs : List Nat} {Q : VK}
theorem c_iSeq (h : te σ H fun x H1 => ∃ a, x = .ref a ∧ (((∃ xs, SqL K H1 a xs) ∧ R (Itl K a) H1) ∨ ((∃ xs, SqT K H1 a xs) ∧ R (Itt K a) H1))) : iSeq K te σ H R := h
end
/-! ## dicts whose keys are texts -/
def rSortedDU : List V → Hp → VK → Prop := fun xs H Q => ∃ (a : Addr) (kvs : List (Key × V)) (ks : List Str), xs = [.ref a] ∧ Rd H a (.dK kvs) ∧ kvs.map (·.1) = ks.map Sum.inr ∧ ks.length < 64 ∧ ∀ ys p, ys.Perm ks → PyProof.Rows.sortedS ys = true → H p = none → Q (.ref p) (upd H p (.lst (ys.map V.str)))
theorem cr_sortedDU {X : Cx} (hc : X.calm = true) : CallR X (.builtin "sorted") rSortedDU := call_sortedD hc
theorem pe_dgetU {X : Cx} {o e : Expr} {apos cpos : Pos} {td ty : TE} (hu : X.A.units + 1 < cLine) (ho : PE X o td) (he : PE X e ty) (hb : attributeBase o "get" X.env (eval o X.env) = eval o X.env := by rfl)
    (hf : ((backTo cpos (starEach [e] X.env)).all (fun x => !x.1) && (backToKw cpos (keywordEach [] X.env)).all (fun x => x.1.isSome) && decide (([e] : List Expr).length + ([] : List Keyword).length + (if ([] : List Keyword).isEmpty then 0 else 1) < 30)) = true := by rfl)
    (hl : (apos.endLine == cpos.line) = true := by rfl) (ht : backTo cpos (starEach [e] X.env) = [(false, eval e X.env)] := by rfl) : PE X (.Call (.Attribute o "get" apos) [e] [] cpos) (tDGet1 td ty) := pe_dget1 hu ho he ⟨hb, hf, hl, ht⟩
theorem c_dget {td ty : TE} {σ : St} {H : Hp} {Q : VK} (h : td σ H fun x H1 => ty σ H1 fun y H2 => ∃ a v, x = .ref a ∧ DGet H2 a y (some v) ∧ Q v H2) : tDGet td ty σ H Q := h
/-- d[k], d.get(k) of a dict whose keys are texts -/
theorem c_dget1 {td ty : TE} {σ : St} {H : Hp} {Q : VK} (h : td σ H fun x H1 => ∃ a, x = .ref a ∧ IsD H1 a ∧ ty σ H1 fun y H2 => ∃ o, DGet H2 a y o ∧ Q (o.getD .non) H2) : tDGet1 td ty σ H Q := h
end Sa

/-! Texts in order; rows by their paths. -/
namespace Sa
open PySem L2
def leS (a b : Str) : Prop := ¬ (b.cps.toList < a.cps.toList)
instance (a b : Str) : Decidable (leS a b) := inferInstanceAs (Decidable (¬ _))
theorem leS_refl (a : Str) : leS a a := List.lt_irrefl _
theorem str_ext {a b : Str} (h : a.cps.toList = b.cps.toList) : a = b := by
  cases a; cases b
  congr 1
  exact Array.toList_inj.mp h
theorem leS_antisymm {a b : Str} (h1 : leS a b) (h2 : leS b a) : a = b := str_ext (List.le_antisymm (List.not_lt.mp h1) (List.not_lt.mp h2))
theorem leS_trans {a b c : Str} (h1 : leS a b) (h2 : leS b c) : leS a c := List.not_lt.mpr (List.le_trans (List.not_lt.mp h1) (List.not_lt.mp h2))
theorem leS_total (a b : Str) : leS a b ∨ leS b a := (List.le_total a.cps.toList b.cps.toList).imp List.not_lt.mpr List.not_lt.mpr
theorem leS_of_lt {a b : Str} (h : a.cps.toList < b.cps.toList) : leS a b := List.not_lt.mpr (List.le_of_lt h)
theorem rising_pair : ∀ (p : Str) (l : List Str), PyProof.Rows.risingS p l = true → (p :: l).Pairwise leS
  | p, [], _ => List.pairwise_singleton ..
  | p, x :: r, h => by
    unfold PyProof.Rows.risingS at h
    rw [Bool.and_eq_true, PyProof.Rows.ltCps_eq, Bool.not_eq_true', decide_eq_false_iff_not] at h
    have ih := rising_pair x r h.2
    refine List.pairwise_cons.mpr ⟨fun y hy => ?_, ih⟩
    rcases List.mem_cons.mp hy with e | hy
    · subst e; exact h.1
    · exact leS_trans h.1 ((List.pairwise_cons.mp ih).1 y hy)
theorem sorted_pair {l : List Str} (h : PyProof.Rows.sortedS l = true) : l.Pairwise leS := by
  cases l with
  | nil => exact .nil
  | cons x r => exact rising_pair x r h
theorem sorted_eq : ∀ {ys zs : List Str}, ys.Perm zs → ys.Pairwise leS → zs.Pairwise leS → ys = zs
  | [], zs, hp, _, _ => (List.Perm.nil_eq hp)
  | y :: r, [], hp, _, _ => by have := hp.length_eq; simp at this
  | y :: r, z :: t, hp, h1, h2 => by
    obtain ⟨a1, a2⟩ := List.pairwise_cons.mp h1
    obtain ⟨b1, b2⟩ := List.pairwise_cons.mp h2
    have e : y = z := by
      have m1 : y ∈ z :: t := hp.subset (List.mem_cons_self ..)
      have m2 : z ∈ y :: r := hp.symm.subset (List.mem_cons_self ..)
      rcases List.mem_cons.mp m1 with e | m1
      · exact e
      rcases List.mem_cons.mp m2 with e | m2
      · exact e.symm
      exact leS_antisymm (a1 z m2) (b1 y m1)
    subst e
    rw [sorted_eq (List.perm_cons y |>.mp hp) a2 b2]
section
variable {β : Type}
def insF (x : Str × β) : List (Str × β) → List (Str × β)
  | [] => [x]
  | y :: r => if x.1.cps.toList < y.1.cps.toList then x :: y :: r else y :: insF x r
def sortF (fs : List (Str × β)) : List (Str × β) := fs.foldr insF []
theorem insF_perm (x : Str × β) : ∀ fs : List (Str × β), (insF x fs).Perm (x :: fs)
  | [] => .refl _
  | y :: r => by
    unfold insF
    split
    · exact .refl _
    · exact ((insF_perm x r).cons y).trans (.swap ..)
theorem sortF_perm : ∀ fs : List (Str × β), (sortF fs).Perm fs
  | [] => .refl _
  | x :: r => (insF_perm x (sortF r)).trans ((sortF_perm r).cons x)
def Asc (fs : List (Str × β)) : Prop := (fs.map Prod.fst).Pairwise leS
theorem insF_asc (x : Str × β) : ∀ {fs : List (Str × β)}, Asc fs → Asc (insF x fs)
  | [], _ => List.pairwise_singleton ..
  | y :: r, h => by
    obtain ⟨h1, h2⟩ := List.pairwise_cons.mp (show (y.1 :: r.map Prod.fst).Pairwise leS from h)
    unfold insF
    split
    · rename_i hlt
      refine List.pairwise_cons.mpr ⟨fun z hz => ?_, h⟩
      rcases List.mem_cons.mp hz with e | hz
      · subst e; exact leS_of_lt hlt
      · exact leS_trans (leS_of_lt hlt) (h1 z hz)
    · rename_i hlt
      refine List.pairwise_cons.mpr ⟨fun z hz => ?_, insF_asc x (fs := r) h2⟩
      have : z ∈ (x :: r).map Prod.fst := ((insF_perm x r).map Prod.fst).subset hz
      rcases List.mem_cons.mp this with e | hz
      · subst e; exact hlt
      · exact h1 z hz
theorem sortF_asc : ∀ fs : List (Str × β), Asc (sortF fs)
  | [] => .nil
  | x :: r => insF_asc x (sortF_asc r)
/-- the keys of rows, sorted, are those of the sorted rows -/
theorem sorted_keys {fs : List (Str × β)} {ys : List Str} (h : ys.Perm (fs.map Prod.fst)) (hs : PyProof.Rows.sortedS ys = true) : ys = (sortF fs).map Prod.fst :=
  sorted_eq (h.trans ((sortF_perm fs).map Prod.fst).symm) (sorted_pair hs) (sortF_asc fs)
theorem sortF_len (fs : List (Str × β)) : (sortF fs).length = fs.length := (sortF_perm fs).length_eq
/-- rows with each path once -/
def Once (fs : List (Str × β)) : Prop := (fs.map Prod.fst).Nodup
theorem sortF_once {fs : List (Str × β)} (h : Once fs) : Once (sortF fs) := ((sortF_perm fs).map Prod.fst).symm.nodup h
theorem asc_perm_eq {fs gs : List (Str × β)} (hp : fs.Perm gs) (ho : Once fs) (h1 : Asc fs) (h2 : Asc gs) : fs = gs := by
  induction fs generalizing gs with
  | nil => exact List.Perm.nil_eq hp
  | cons x r ih =>
    cases gs with
    | nil => have := hp.length_eq; simp at this
    | cons y t =>
      have ek := sorted_eq (hp.map Prod.fst) h1 h2
      simp only [List.map_cons, List.cons.injEq] at ek
      have exy : x = y := by
        rcases List.mem_cons.mp (hp.subset (List.mem_cons_self ..)) with e | m
        · exact e
        · exfalso
          have hy : Once (y :: t) := (hp.map Prod.fst).nodup ho
          have : y.1 ∉ t.map Prod.fst := (List.nodup_cons.mp hy).1
          exact this (ek.1 ▸ List.mem_map_of_mem (f := Prod.fst) m)
      subst exy
      rw [ih ((List.perm_cons x).mp hp) (List.nodup_cons.mp ho).2 (List.pairwise_cons.mp h1).2 (List.pairwise_cons.mp h2).2]
theorem sortF_of_asc {fs : List (Str × β)} (ho : Once fs) (h : Asc fs) : sortF fs = fs := asc_perm_eq (sortF_perm fs) (sortF_once ho) (sortF_asc fs) h
theorem sortF_congr {fs gs : List (Str × β)} (hp : fs.Perm gs) (ho : Once fs) : sortF fs = sortF gs :=
  asc_perm_eq ((sortF_perm fs).trans (hp.trans (sortF_perm gs).symm)) (sortF_once ho) (sortF_asc _) (sortF_asc _)
/-- what stands at a path -/
def at? (fs : List (Str × β)) (p : Str) : Option β := (fs.find? fun f => decide (f.1 = p)).map Prod.snd
theorem at_some {fs : List (Str × β)} (ho : Once fs) {p : Str} {v : β} : at? fs p = some v ↔ (p, v) ∈ fs := by
  induction fs with
  | nil => simp [at?]
  | cons f r ih =>
    obtain ⟨h1, h2⟩ := List.nodup_cons.mp (show (f.1 :: r.map Prod.fst).Nodup from ho)
    have ih := ih h2
    unfold at? at ih ⊢
    rw [List.find?_cons]
    by_cases e : f.1 = p
    · rw [decide_eq_true e]
      constructor
      · intro h
        have h : f.2 = v := by simpa using h
        rw [← e, ← h]
        exact List.mem_cons_self ..
      · intro h
        rcases List.mem_cons.mp h with h | h
        · rw [← h]; rfl
        · exact absurd (List.mem_map_of_mem (f := Prod.fst) h) (by rw [← e]; exact h1)
    · rw [decide_eq_false e]
      rw [ih]
      constructor
      · exact List.mem_cons_of_mem _
      · intro h
        rcases List.mem_cons.mp h with h | h
        · exact absurd (by rw [← h]) e
        · exact h
theorem at_perm {fs gs : List (Str × β)} (ho : Once fs) (hp : fs.Perm gs) (p : Str) : at? fs p = at? gs p := by
  have hg : Once gs := (hp.map Prod.fst).nodup ho
  cases h : at? gs p with
  | none =>
    cases h2 : at? fs p with
    | none => rfl
    | some v => rw [(at_some hg).mpr (hp.subset ((at_some ho).mp h2))] at h; cases h
  | some v => exact (at_some ho).mpr (hp.symm.subset ((at_some hg).mp h))
end
end Sa

/-! Dict comprehensions; rows of files as they lie in the heap. -/
namespace Sa
open PySem L2
section
variable {K : PySem.W.Frag} {σ : St} {H : Hp} {wi : TI} {g : TG} {tt : TT} {tk tv : TE} {n : Nat} {Q : VK} {vs : List Nat} {J : It} {ok : Hp → Prop} {Y : Nat → V → Hp → Hp → Prop}
def DcJ (J : It) (g : TG) (tt : TT) (tk tv : TE) (vs : List Nat) (σ : St) (H1 : Hp) (Q : VK) : Prop := ∀ D, H1 D = none → ∃ W : Nat → Nat → Hp → Prop, (∃ m, W 0 m (upd H1 D (.dK []))) ∧ ∀ i m H, W i m H →
  (J.stop i H ∧ Q (.ref D) H) ∨ (J.go i H ∧ ∃ Nx : Hp → Prop, (∀ H', Nx H' → ∃ m', m' < m ∧ W (i + 1) m' H') ∧ ∀ x H', J.yld i H x H' → g x (wipe σ vs) H' fun σ2 H2 => wipe σ2 vs = wipe σ vs ∧ tt σ2 H2 fun b H3 =>
    if b = true then tk σ2 H3 fun y H4 => tv σ2 H4 fun z H5 => ∃ kvs k, y = kV k ∧ H5 D = some (.dK kvs) ∧ kvs.length < sizeLine ∧ Nx (upd H5 D (.dK (putK kvs k z))) else Nx H3)
theorem c_dc (h : wi σ H fun J H1 => DcJ J g tt tk tv vs σ H1 Q) : tDc wi g tt tk tv vs σ H Q := h
abbrev DcM (g : TG) (tt : TT) (tk tv : TE) (vs : List Nat) (σ : St) (R : V → V → Hp → Prop) (S : Hp → Prop) (x : V) (H' : Hp) : Prop :=
  g x (wipe σ vs) H' fun σ2 H2 => wipe σ2 vs = wipe σ vs ∧ tt σ2 H2 fun b H3 => if b = true then tk σ2 H3 fun y H4 => tv σ2 H4 fun z H5 => R y z H5 else S H3
/-- each turn puts a new text -/
theorem dcQ_map (I : Itn J n ok Y) (key : Nat → Str) (val : Nat → V) (hnd : ((List.range n).map key).Nodup) (hz : n ≤ 10000) (hok : ∀ H', Kp [] H H' → ok H')
    (hs : ∀ i x H' H'' R S, i < n → Kp [] H H' → Y i x H' H'' → (∀ H4, Kp [] H'' H4 → R (.str (key i)) (val i) H4) → DcM g tt tk tv vs σ R S x H'')
    (hd : ∀ D H', H D = none → Kp [] H H' → H' D = some (.dK ((List.range n).map fun i => (Sum.inr (key i), val i))) → Q (.ref D) H') : DcJ J g tt tk tv vs σ H Q := by
  intro D hD
  refine ⟨fun i m H' => m = n - i ∧ i ≤ n ∧ Kp [] H H' ∧ H' D = some (.dK ((List.range i).map fun i => (Sum.inr (key i), val i))), ⟨_, rfl, Nat.zero_le _, Kp.new hD, upd_same⟩, ?_⟩
  rintro i m H1 ⟨rfl, hi, e, h⟩
  have o := hok H1 e
  by_cases hlt : i < n
  · refine .inr ⟨I.go i H1 o hlt, fun H' => Kp [] H H' ∧ H' D = some (.dK ((List.range (i + 1)).map fun i => (Sum.inr (key i), val i))), fun H' p => ⟨_, by omega, rfl, hlt, p.1, p.2⟩, fun x H' y => ?_⟩
    have y' := I.yld i H1 x H' o hlt y
    have k := I.kp i x H1 H' y'
    refine hs i x H1 H' _ _ hlt e y' fun H4 e4 => ?_
    refine ⟨_, Sum.inr (key i), rfl, e4.at0 (k.at0 h), by rw [List.length_map, List.length_range, sizeLine_eq]; omega, ((e.trans k).trans e4).fresh_mut hD, ?_⟩
    rw [upd_same]
    congr 2
    unfold putK
    have hno : ((List.range i).map fun i => ((Sum.inr (key i) : Key), val i)).any (fun kv => decide (kv.1 = Sum.inr (key i))) = false := by
      rw [List.any_eq_false]
      intro kv hkv
      obtain ⟨j, hj, rfl⟩ := List.mem_map.mp hkv
      simp only [decide_eq_true_eq, Sum.inr.injEq]
      intro ej
      have hj : j < i := List.mem_range.mp hj
      have a1 : ((List.range n).map key)[j]? = some (key j) := by rw [List.getElem?_map, List.getElem?_range (by omega)]; rfl
      have a2 : ((List.range n).map key)[i]? = some (key i) := by rw [List.getElem?_map, List.getElem?_range (by omega)]; rfl
      have := (List.getElem?_inj (by rw [List.length_map, List.length_range]; omega) hnd).mp (a1.trans ((congrArg some ej).trans a2.symm))
      omega
    rw [hno, if_neg Bool.false_ne_true, List.range_succ, List.map_append]
    rfl
  · have ei : i = n := by omega
    subst ei
    exact .inl ⟨I.stop i H1 o (Nat.le_refl _), hd D H1 hD e h⟩
end
/-! ## walks of a sequence, whichever it is -/
section
variable {K : PySem.W.Frag} {σ : St} {H : Hp} {g : TG} {tt : TT} {te tk tv : TE} {tb : TS} {D : Ends} {Q : VK} {vs : List Nat} {a : Addr} {α : Type} {ys : List α} {u : α → V}
abbrev Yq (ys : List α) (u : α → V) : Nat → V → Hp → Hp → Prop := fun i x H H' => H' = H ∧ ∃ y, ys[i]? = some y ∧ x = u y
theorem seq_any {R : It → Hp → Prop} (h : Sq K H a (ys.map u)) (q : ∀ J ok, Itn J ys.length ok (Yq ys u) → (∀ H', Kp [] H H' → ok H') → R J H) :
    ∃ b, V.ref a = .ref b ∧ (((∃ xs, SqL K H b xs) ∧ R (Itl K b) H) ∨ ((∃ xs, SqT K H b xs) ∧ R (Itt K b) H)) := by
  rcases h with h | h
  · exact ⟨a, rfl, .inl ⟨⟨_, h⟩, q _ _ itn_l fun H' e => SqL.kp e h⟩⟩
  · exact ⟨a, rfl, .inr ⟨⟨_, h⟩, q _ _ itn_t fun H' e => SqT.kp e h⟩⟩
theorem c_seqC (h : Sq K H a (ys.map u)) (q : ∀ J ok, Itn J ys.length ok (Yq ys u) → (∀ H', Kp [] H H' → ok H') → LcJ J g tt te vs σ H Q) :
    ∃ b, V.ref a = .ref b ∧ (((∃ xs, SqL K H b xs) ∧ LcJ (Itl K b) g tt te vs σ H Q) ∨ ((∃ xs, SqT K H b xs) ∧ LcJ (Itt K b) g tt te vs σ H Q)) := seq_any (R := fun J H => LcJ J g tt te vs σ H Q) h q
theorem c_seqF (h : Sq K H a (ys.map u)) (q : ∀ J ok, Itn J ys.length ok (Yq ys u) → (∀ H', Kp [] H H' → ok H') → ForJ J g tb D σ H) :
    ∃ b, V.ref a = .ref b ∧ (((∃ xs, SqL K H b xs) ∧ ForJ (Itl K b) g tb D σ H) ∨ ((∃ xs, SqT K H b xs) ∧ ForJ (Itt K b) g tb D σ H)) := seq_any (R := fun J H => ForJ J g tb D σ H) h q
theorem c_seqD (h : Sq K H a (ys.map u)) (q : ∀ J ok, Itn J ys.length ok (Yq ys u) → (∀ H', Kp [] H H' → ok H') → DcJ J g tt tk tv vs σ H Q) :
    ∃ b, V.ref a = .ref b ∧ (((∃ xs, SqL K H b xs) ∧ DcJ (Itl K b) g tt tk tv vs σ H Q) ∨ ((∃ xs, SqT K H b xs) ∧ DcJ (Itt K b) g tt tk tv vs σ H Q)) := seq_any (R := fun J H => DcJ J g tt tk tv vs σ H Q) h q
end
theorem range_getD {α β : Type} (ys : List α) (d : α) (f : α → β) : (List.range ys.length).map (fun i => f (ys.getD i d)) = ys.map f := by
  apply List.ext_getElem?
  intro i
  rw [List.getElem?_map, List.getElem?_map]
  by_cases h : i < ys.length
  · rw [List.getElem?_range h, List.getElem?_eq_getElem h]
    simp [List.getD_eq_getElem?_getD, List.getElem?_eq_getElem h]
  · rw [List.getElem?_eq_none (by rw [List.length_range]; omega), List.getElem?_eq_none (by omega)]
    rfl
theorem getD_of {α : Type} {ys : List α} {i : Nat} {y d : α} (h : ys[i]? = some y) : ys.getD i d = y := by rw [List.getD_eq_getElem?_getD, h]; rfl
/-! ## rows of files -/
abbrev File := Str × List Str
/-- a row as it lies in the heap: its own place, its lines' place, what it says -/
abbrev RowA := Addr × Addr × File
structure RowOk (K : PySem.W.Frag) (H : Hp) (r : RowA) : Prop where
  row : SqT K H r.1 [.str r.2.2.1, .ref r.2.1]
  lines : SqT K H r.2.1 (r.2.2.2.map V.str)
theorem RowOk.kp {K : PySem.W.Frag} {H H' : Hp} {r : RowA} (h : RowOk K H r) (e : Kp [] H H') : RowOk K H' r := ⟨SqT.kp e h.row, SqT.kp e h.lines⟩
/-- rows of files at a: a list or a tuple -/
def RowsAt (K : PySem.W.Frag) (H : Hp) (a : Addr) (fs : List File) : Prop := ∃ rs : List RowA, Sq K H a (rs.map fun r => V.ref r.1) ∧ rs.map (fun r => r.2.2) = fs ∧ ∀ r ∈ rs, RowOk K H r
theorem Sq.kp {K : PySem.W.Frag} {H H' : Hp} {a : Addr} {xs : List V} (h : Sq K H a xs) (e : Kp [] H H') : Sq K H' a xs := h.imp (SqL.kp e) (SqT.kp e)
theorem RowsAt.kp {K : PySem.W.Frag} {H H' : Hp} {a : Addr} {fs : List File} (h : RowsAt K H a fs) (e : Kp [] H H') : RowsAt K H' a fs := by
  obtain ⟨rs, h1, h2, h3⟩ := h
  exact ⟨rs, Sq.kp h1 e, h2, fun r hr => (h3 r hr).kp e⟩
/-- a tree: its files in the order of their paths -/
def TreeAt (K : PySem.W.Frag) (H : Hp) (a : Addr) (fs : List File) : Prop := ∃ (dx d : Addr) (ls : List (Addr × File)), H a = some (.ins (He.ga K "Tree") dx [("_files", .ref d)]) ∧
  H d = some (.dK (ls.map fun l => (Sum.inr l.2.1, V.ref l.1))) ∧ (∀ l ∈ ls, SqT K H l.1 (l.2.2.map V.str)) ∧ Once (ls.map Prod.snd) ∧ fs = sortF (ls.map Prod.snd)
theorem TreeAt.kp {K : PySem.W.Frag} {H H' : Hp} {a : Addr} {fs : List File} (h : TreeAt K H a fs) (e : Kp [] H H') : TreeAt K H' a fs := by
  obtain ⟨dx, d, ls, h1, h2, h3, h4, h5⟩ := h
  exact ⟨dx, d, ls, e.at0 h1, e.at0 h2, fun l hl => SqT.kp e (h3 l hl), h4, h5⟩
/-! ## methods with defaults, all parameters given -/
def dOfMd (C m q : Str) (st : Stmt) (ds : List He.Dv) : He.DefD := ⟨(C, some m), m, q, defArgs st, defBody st, defScope st, ds, []⟩
def BindD (m q : Str) (st : Stmt) (ps : List Str) (nd : Nat) : Prop := ∀ (T : Addr) (kV doc pm : Value) (an : Option Addr) (cdv ct : Value) (us its : List Value), us.length = ps.length → its.length = nd →
  ∃ k, bindArgs (PySem.W.fnOf m q (defArgs st) (defBody st) (defScope st) (.ref T) kV doc pm an cdv ct) ⟨us, []⟩ = seqItems? (.ref T) >>= k ∧ k (some its.toArray) = pure (ps.zip us)
section
variable {P : Program} {w : World} {K : PySem.W.Frag} {mg : Str → Option Value} {base : Heap}
theorem meth_ofXD {fa : List He.Fa} {fn : List He.DefD} {fx : List Fx} (T : Tx fa fn fx K mg) (i j : Nat) {C m q : Str} {st : Stmt} {N ps : List Str} {k : Nat} {sp : Sp} {ds : List He.Dv} (S : FnScope N ps (defScope st)) (B : BindD m q st ps ds.length) (hne : ds ≠ [])
    (len : ∀ vs H Q E, sp vs H Q E → vs.length = ps.length) (body : BodyMX P w K mg base C m q st N k sp) (hd : fn[i]? = some (dOfMd C m q st ds) := by rfl) (hg : fa[j]? = some (.meth C m) := by rfl) : MethAt P w K mg base (L2.CX P w) C m (k + 1) ps sp := by
  have me := He.meth_ok (T.fact j hg)
  obtain ⟨hp, X, G, c, _⟩ := T
  obtain ⟨fd, F⟩ := c.def_ i hd
  have hl : (ds.map (He.Dv.v K)).length = ds.length := List.length_map ..
  obtain ⟨vs, r, b⟩ := F.binds1 (ps := ps) ps.length ds.length (by intro z; exact hne (List.map_eq_nil_iff.mp z)) (by show ps.length + ((ds.map (He.Dv.v K)).length - ds.length) = ps.length; rw [hl]; omega) (fun T kV doc pm an cdv ct us its h1 h2 => by
    have h2 : its.length = ds.length := h2.trans hl
    obtain ⟨k, e1, e2⟩ := B T kV doc pm an cdv ct us its h1 h2
    exact ⟨k, e1, by rw [List.drop_of_length_le (by omega), List.append_nil]; exact e2⟩)
  have ev : vs = [] := by
    have : (ds.map (He.Dv.v K)).drop ds.length = [] := List.drop_of_length_le (by omega)
    have r' : Vals ((ds.map (He.Dv.v K)).drop ds.length) vs := r
    rw [this] at r'
    cases r'
    rfl
  subst ev
  exact ⟨me, fd, F.ok S len fun cdv A outer s H vs Q E hr h => body cdv A outer s H vs Q E h hr (takes_of rfl rfl rfl rfl), b⟩
end
end Sa

/-! enumerate(tuple); slices and sums of tuples; membership. -/
namespace Sa
open PySem PySem.Spec PyProof.Rows L2
open Sem (wp)
theorem meets_enum_new1 {v : Value} {o : Obj} {H : Heap → Prop} (B : Begins v o H) :
    Meets (Builtin.«enumerate.__new__» ⟨[.type "enumerate", v], []⟩) (fun _ R s => H s.heap ∧
      R (.ok (.ret (.ref (s.heap.push o).objs.size))) { s with heap := (s.heap.push o).push { cls := .type "enumerate", data := .fields #[.none, .bool false, .ref s.heap.objs.size, rawInt 0, .none, .none] } }) :=
  .of_wp fun prog w A R s h => by
    obtain ⟨hp, g, d, tk, os⟩ := s; obtain ⟨h1, h⟩ := h
    have hsub := sub_enumerate
    have q1 : ∀ {A' : Around} {E : Value → Shared → Prop} {Q : Value → Shared → Prop}, Q (.ref hp.objs.size) ⟨hp.push o, g, d, tk, os⟩ → wpAny (model prog w) A' (pyIter v) Q E ⟨hp, g, d, tk, os⟩ :=
      fun q => B.iter prog w _ _ ⟨hp, g, d, tk, os⟩ _ h1 q
    wp_walk using q1
    refine wpAny_stack_any fun st => wpAny_pure ?_
    split
    · rename_i c _ _ _ _ _
      cases (c == Value.type "enumerate")
      · wp_walk using q1
        exact ⟨_, rfl, h⟩
      · wp_walk using q1
        exact ⟨_, rfl, h⟩
    · wp_walk using q1
      exact ⟨_, rfl, h⟩
theorem call_enum1 {prog : Program} {w : World} {A : Around} {E : Value → Shared → Prop} {s : Shared} {v : Value} {o : Obj} {H : Heap → Prop} {Q : Value → Shared → Prop} (B : Begins v o H) (h1 : H s.heap)
    (h : ∀ h', IsEnum h' (s.heap.objs.size + 1) s.heap.objs.size 0 .none → h'.get? s.heap.objs.size = some o → h'.objs.size = s.heap.objs.size + 2 →
      (∀ b o, s.heap.get? b = some o → h'.get? b = some o) → Q (.ref (s.heap.objs.size + 1)) { s with heap := h' }) :
    wpAny (model prog w) A (call (.type "enumerate") [v]) Q E s := by
  refine callType_new F.called_enumerate (by decide) (F.typeCall_enumerate_1 _) (F.newCall_enumerate_1 _) (fun obj => F.args_object_init_2 obj _) F.entry_enumerate_new
    (meets_enum_new1 B) ⟨h1, ?_⟩
  have hz : (s.heap.push o).objs.size = s.heap.objs.size + 1 := Heap.size_push ..
  show _ ∧ _
  rw [hz]
  have he : IsEnum ((s.heap.push o).push { cls := .type "enumerate", data := .fields #[.none, .bool false, .ref s.heap.objs.size, rawInt 0, .none, .none] }) (s.heap.objs.size + 1) s.heap.objs.size 0 .none := by
    have := Heap.get?_push_size (s.heap.push o) (o := { cls := .type "enumerate", data := .fields #[.none, .bool false, .ref s.heap.objs.size, rawInt 0, .none, .none] }) rfl
    rw [hz] at this; exact this
  refine ⟨⟨_, he, rfl⟩, h _ he (Heap.get?_push_of_some _ (Heap.get?_push_size _ B.free)) (by rw [Heap.size_push, hz]) fun b o x => Heap.get?_push_of_some _ (Heap.get?_push_of_some _ x)⟩
theorem pyNext_enum_endT {prog : Program} {w : World} {A : Around} {E : Value → Shared → Prop} {s : Shared} {e it t : Addr} {j : Int} {i : Nat} {items : Array Value} {old : Value} {Q : Option Value → Shared → Prop} (hh : A.handled = none)
    (he : IsEnum s.heap e it j old) (hit : s.heap.IsTupleIter it t i) (ht : s.heap.IsTuple t items) (hx : items[i]? = none)
    (hQ : ∀ h', Heap.ExtBut it s.heap h' → Q none { s with heap := h' }) : wpAny (model prog w) A (pyNext (.ref e)) Q E s := by
  have hT : s.TypeIs (.ref e) "enumerate" := ⟨_, he, rfl⟩
  unfold pyNext
  refine wpAny_bind (wpAny_attempt (wpAny_callSpecial?_slot (name := Str.ofString "__next__") hT F.slot_enumerate_next
    (wpAny_call_entry F.slot_enumerate_next hT F.entry_enumerate_next ?_ (F.args_enumerate_next_1 _))))
  show wpAny _ _ (field (.ref e) 2 >>= _) _ _ _
  refine wpAny_bind (wpAny_field he rfl (x := .ref it) rfl ?_)
  refine wpAny_bind (wpAny_nextOf_tuple_end (A := A.in1) hh hit ht hx fun h' x he' hx' => ?_)
  obtain ⟨o, ho, hc⟩ := hx'
  refine wpAny_bind (wpAny_isInstance (T := "StopIteration") (b := true) ⟨o, ho, hc⟩ isSubtype_stop ?_)
  exact wpAny_pure (hQ _ he')
/-- the tuple at a, each item in a new pair -/
def Iet (K : PySem.W.Frag) (a : Addr) : It :=
  ⟨fun i H => ∃ (xs : List V) (x : V), SqT K H a xs ∧ xs[i]? = some x, fun i H v H' => ∃ T x, v = .ref T ∧ H T = none ∧ H' = upd H T (.tup [.int (i : Nat), x]) ∧ ∀ xs, SqT K H a xs → xs[i]? = some x, fun i H => ∃ xs : List V, SqT K H a xs ∧ xs.length ≤ i⟩
theorem turn_enumT {P : Program} {w : World} {K : PySem.W.Frag} {elts : List Expr} {kk : Nat} {tpos : Pos} (a e it : Addr) :
    Turn P w K (.Tuple elts kk tpos) (Iet K a) [e, it] e (fun i h => (∃ old, IsEnum h e it ((i : Nat) : Int) old) ∧ h.IsTupleIter it a i ∧ e ≠ it ∧ e ≠ a ∧ a ≠ it) where
  mem := by simp
  obj := fun i h st b hb => by
    obtain ⟨⟨old, he⟩, ⟨o, ho, hc, hd⟩, _⟩ := st
    have e' : b = e ∨ b = it := by simpa using hb
    rcases e' with z | z
    · rw [z]; exact ⟨_, he, fun v q => nomatch q⟩
    · rw [z]; exact ⟨o, ho, fun v q => by rw [hd] at q; cases q⟩
  keep := fun i h h' st k => let ⟨⟨old, he⟩, hi, hne⟩ := st; ⟨⟨old, k e (by simp) _ he⟩, hi.at fun o q => k it (by simp) o q, hne⟩
  item := by
    intro X hP hw hK hc i pins s σ H E I hf st hg
    subst hP hw hK
    obtain ⟨⟨old, he⟩, hit, hne, hea, hai⟩ := st
    obtain ⟨xs, x, hq, hx⟩ := hg
    obtain ⟨its, rv, p, hz⟩ := I.tuple hq
    have p' : s.heap.IsTuple a its.toArray := p
    obtain ⟨u, hu, ru⟩ := rv.get hx
    have hel : e < s.heap.objs.size := Heap.lt_size he
    have hil : it < s.heap.objs.size := by obtain ⟨_, q, _⟩ := hit; exact Heap.lt_size q
    have hi : i < its.toArray.size := by rw [List.size_toArray]; exact (List.getElem?_eq_some_iff.mp hu).1
    refine wpAny_pyNext_enum_itemD (fp := [it, a]) (Draws.tuple (A := X.A.in1) (I.ok.hd hc) it a hai its.toArray) he ⟨hit, p'⟩ hi hne (by simp [hne, hea]) fun x2 h' tk hx2 ho hit' hT hsz hk => ?_
    have ex : x2 = u := by
      have : its.toArray[i]? = some x2 := hx2
      rw [List.getElem?_toArray, hu] at this
      exact (Option.some.inj this).symm
    subst ex
    refine ⟨_, rfl, wpAny_letOwnedTupleGo_enum (s := { s with heap := h', toks := tk + 1 }) ho fun h'' he' sb => ?_⟩
    have hT2 : h''.get? s.heap.objs.size = some { cls := .type "tuple", data := .seq #[.int i tk, x2] } := (sb.2 _ (Nat.ne_of_gt hel)).trans hT
    have new : ObjOk X.prog X.w (upd H s.heap.objs.size (.tup [.int (i : Nat), x])) h'' s.heap.objs.size (.tup [.int (i : Nat), x]) :=
      ⟨by show 2 ≤ sizeLine; decide, [.int i tk, x2], .cons ⟨_, rfl⟩ (.cons ru .nil), ⟨_, hT2, rfl, _, rfl⟩⟩
    have I1 : Inv X pins σ (upd H s.heap.objs.size (.tup [.int (i : Nat), x])) { s with heap := h'', toks := tk + 1 } :=
      I.turnedNew (ch := [e, it]) (fun b ob hb q => (sb.2 b (fun z => hb (by simp [z]))).trans (hk b ob (fun z => hb (by simp [z])) (fun z => hb (by simp [z])) q)) hf (Nat.le_refl _) new
    refine ⟨.ref s.heap.objs.size, _, I1, rfl, ⟨_, x, rfl, I.hok.fresh (Nat.le_refl _), rfl, fun ys hy => by rw [I.tuple_inj hy hq]; exact hx⟩, ⟨⟨x2, ?_⟩, hit'.1.at fun o q => (sb.2 it (Ne.symm hne)).trans q, hne, hea, hai⟩, fun b hb => ?_⟩
    · have e1 : ((i + 1 : Nat) : Int) = (i : Int) + 1 := by omega
      rw [e1]; exact he'
    · have hb' : b < s.heap.objs.size := by
        have e' : b = e ∨ b = it := by simpa using hb
        rcases e' with z | z
        · rw [z]; exact hel
        · rw [z]; exact hil
      rw [upd_ne (Nat.ne_of_lt hb')]
      exact (hf b hb).1
  done := by
    intro X hP hw hK hc i pins s σ H E I hf st hg
    subst hP hw hK
    obtain ⟨⟨old, he⟩, hit, hne, hea, hai⟩ := st
    obtain ⟨xs, hq, hx⟩ := hg
    obtain ⟨its, rv, p, hz⟩ := I.tuple hq
    have p' : s.heap.IsTuple a its.toArray := p
    obtain ⟨f0, f1, f2, f3, f4, f5⟩ := hf it (by simp)
    have hl := rv.length
    exact pyNext_enum_endT (A := X.A) (I.ok.hd hc) he hit p' (by rw [List.getElem?_toArray]; exact List.getElem?_eq_none (by omega)) fun h' eb => ⟨rfl, I.turned (t' := s.toks) (fun b o hb e => eb b o hb e) f0 f1 f3 f4 f5⟩
  self := fun A i s Q E st h => let ⟨⟨_, he⟩, _⟩ := st; wpAny_pyIter_enum he h
def iEnumT (K : PySem.W.Frag) (ta : TA) : TI := fun σ H R => ta σ H fun vs H1 => ∃ a xs, vs = [.ref a] ∧ SqT K H1 a xs ∧ R (Iet K a) H1
theorem pi_enumT {X : Cx} {K : PySem.W.Frag} {e : Expr} {ta : TA} {p pos tpos : Pos} {elts : List Expr} {kk : Nat} (hg : Gl X "enumerate") (hm : X.mg "enumerate" = none) (ha : PA X [e] ta) (hK : X.K = K := by rfl) (hs : starEach [e] X.env = [(false, eval e X.env)] := by rfl) :
    PI X (.Tuple elts kk tpos) (.Call (.Name "enumerate" p) [e] [] pos) (iEnumT K ta) := by
  subst hK
  refine ⟨fun pins s σ H R I h => ?_⟩
  refine Call_ (ld_blt I hg hm boot_enumerate (PyProof.Rows.callWith_type1 (thn (ha.run pos pins s σ H _ I h) fun us s1 ⟨vs, H1, I1, r1, q1⟩ => ?_) hs rfl))
  obtain ⟨a, xs, ex, hq, q⟩ := q1
  subst ex
  cases r1 with
  | cons r rr =>
    cases rr
    cases r
    obtain ⟨its, rv, p', hz⟩ := I1.tuple hq
    have p2 : s1.heap.IsTuple a its.toArray := p'
    have ha1 : a < s1.heap.objs.size := by obtain ⟨_, q, _⟩ := p2; exact Heap.lt_size q
    refine call_enum1 (begins_tuple a its.toArray) p2 fun h' he hit hsz hk => wpAny_pyIter_enum he ?_
    have I2 : Inv X pins σ H1 { s1 with heap := h' } := I1.kept (t' := s1.toks) hk
    refine ⟨s1.heap.objs.size + 1, [s1.heap.objs.size + 1, s1.heap.objs.size], _, _, H1, rfl, I2, turn_enumT a (s1.heap.objs.size + 1) s1.heap.objs.size, ⟨⟨.none, he⟩, ⟨_, hit, rfl, rfl⟩, Nat.succ_ne_self _, Nat.ne_of_gt (Nat.lt_succ_of_lt ha1), Nat.ne_of_lt ha1⟩, fun b hb => ?_, q⟩
    have e' : b = s1.heap.objs.size + 1 ∨ b = s1.heap.objs.size := by simpa using hb
    have hle : s1.heap.objs.size ≤ b := by
      rcases e' with z | z
      · rw [z]; exact Nat.le_add_right _ _
      · rw [z]; exact Nat.le_refl _
    exact I1.fpOk hle (I1.hok.fresh hle)
theorem itn_et {K : PySem.W.Frag} {a : Addr} {α : Type} {ys : List α} {u : α → V} : Itn (Iet K a) ys.length (fun H => SqT K H a (ys.map u)) (fun i x H H' => ∃ T y, x = .ref T ∧ New H T (.tup [.int (i : Nat), u y]) H' ∧ ys[i]? = some y) where
  go := fun i H ok hi => ⟨_, u (ys[i]), ok, by rw [List.getElem?_map, List.getElem?_eq_getElem hi]; rfl⟩
  stop := fun i H ok hi => ⟨_, ok, by rw [List.length_map]; exact hi⟩
  yld := fun i H x H' ok hi y => by
    obtain ⟨T, x', h1, h2, h3, h4⟩ := y
    have := h4 _ ok
    rw [List.getElem?_map] at this
    obtain ⟨y, e1, e2⟩ := Option.map_eq_some_iff.mp this
    subst e2
    exact ⟨T, y, h1, ⟨h2, h3⟩, e1⟩
  kp := fun i x H H' h => by
    obtain ⟨T, y, _, N, _⟩ := h
    exact N.kp
section
variable {K : PySem.W.Frag} {σ : L2.St} {H : Hp} {Q : VK} {R : It → Hp → Prop} {ta : TA} {a b : Addr} {xs ys : List V} {s z : Str}
theorem c_enumT (h : ta σ H fun vs H1 => ∃ a xs, vs = [.ref a] ∧ SqT K H1 a xs ∧ R (Iet K a) H1) : iEnumT K ta σ H R := h
/-! slices and sums of tuples: the tuple itself or a new one -/
theorem c_slT {lo hi : Option Int} (h : SqT K H a xs) (q : ∀ p H', Kp [] H H' → SqT K H' p (cutL xs lo hi) → Q (.ref p) H') : rSlU K (.ref a) lo hi H Q := by
  refine .inr (.inr ⟨a, xs, rfl, h, fun hw => ?_, fun _ p hp => ?_⟩)
  · refine q a H Kp.refl ?_
    have e : cutL xs lo hi = xs := by
      unfold cutL
      rw [hw.1, hw.2, List.drop_zero, Nat.sub_zero, List.take_length]
    rw [e]; exact h
  · exact q p _ (Kp.new hp) (SqT.of upd_same)
theorem c_addT (ha : SqT K H a xs) (hb : SqT K H b ys) (hl : xs.length + ys.length ≤ sizeLine) (q : ∀ p H', Kp [] H H' → SqT K H' p (xs ++ ys) → Q (.ref p) H') : rAddU K (.ref a) (.ref b) H Q := by
  refine .inr (.inr (.inr ⟨a, b, xs, ys, rfl, rfl, ha, hb, hl, fun h => ?_, fun _ h => ?_, fun _ _ p hp => q p _ (Kp.new hp) (SqT.of upd_same)⟩))
  · subst h; exact q b H Kp.refl hb
  · subst h; exact q a H Kp.refl (by rw [List.append_nil]; exact ha)
theorem inV_str (s : Str) : ∀ ys : List Str, inV (.str s) (ys.map V.str) = decide (s ∈ ys)
  | [] => by simp [inV]
  | y :: r => by
    have ih := inV_str s r
    unfold inV at ih ⊢
    rw [List.map_cons, List.any_cons, ih]
    by_cases h : s = y
    · subst h; simp [eqV]
    · have h2 : y ≠ s := fun e => h e.symm
      simp [eqV, h, h2]
theorem flat_strs (ys : List Str) : (ys.map V.str).all flatV = true := by rw [List.all_eq_true]; intro v hv; obtain ⟨y, _, rfl⟩ := List.mem_map.mp hv; rfl
theorem c_inSs {ys : List Str} (h : SqL K H a (ys.map V.str) ∨ SqT K H a (ys.map V.str)) (q : Q (.bl (decide (s ∈ ys))) H) : rInU K (.str s) (.ref a) H Q :=
  .inr (.inr ⟨a, _, rfl, h, rfl, flat_strs ys, by rw [inV_str]; exact q⟩)
theorem c_notInSs {ys : List Str} (h : SqL K H a (ys.map V.str) ∨ SqT K H a (ys.map V.str)) (q : Q (.bl (!decide (s ∈ ys))) H) : rNotInU K (.str s) (.ref a) H Q :=
  .inr (.inr ⟨a, _, rfl, h, rfl, flat_strs ys, by rw [inV_str]; exact q⟩)
/-- a text in a text -/
def occS (j i : Str) : Bool := !(Builtin.Str.occurrences j i 0 j.length 1).isEmpty
theorem c_inT (q : Q (.bl (occS z s)) H) : rInU K (.str s) (.str z) H Q := .inr (.inl ⟨s, z, rfl, rfl, q⟩)
end
end Sa

/-! Data in the heap: kept, opened; comprehensions and loops that make data. -/
namespace Sa
open PySem L2
/-! ## tuples stay what they are -/
/-- all tuples are kept -/
def Kt (H H' : Hp) : Prop := ∀ a xs, Rd H a (.tup xs) → Rd H' a (.tup xs)
section
variable {K : PySem.W.Frag} {H H' H1 H2 : Hp} {a b : Addr} {v : V} {xs : List V} {d e : PyData} {ds : List PyData} {o : HO}
theorem Kt.refl : Kt H H := fun _ _ h => h
theorem Kt.trans (e : Kt H H1) (f : Kt H1 H2) : Kt H H2 := fun a xs h => f a xs (e a xs h)
theorem Kp.kt (e : Kp [] H H') : Kt H H' := fun a xs h => rd_at (fun o ho => e.at0 ho) h
/-- what is no tuple -/
def NoT (H : Hp) (b : Addr) : Prop := ∀ xs, ¬ Rd H b (.tup xs)
theorem NoT.none (h : H b = none) : NoT H b := fun xs r => by rcases r with r | ⟨o, r⟩ <;> rw [h] at r <;> cases r
theorem NoT.lst {ys : List V} (h : H b = some (.lst ys)) : NoT H b := fun xs r => by rcases r with r | ⟨o, r⟩ <;> rw [h] at r <;> cases r
theorem NoT.dK {ys : List (Key × V)} (h : H b = some (.dK ys)) : NoT H b := fun xs r => by rcases r with r | ⟨o, r⟩ <;> rw [h] at r <;> cases r
theorem NoT.ins {C dx : Addr} {fs : List (Str × V)} (h : H b = some (.ins C dx fs)) : NoT H b := fun xs r => by rcases r with r | ⟨o, r⟩ <;> rw [h] at r <;> cases r
theorem NoT.of (h : H b = some o) (h1 : ∀ xs, o ≠ .tup xs) (h2 : ∀ u xs, o ≠ .frz u (.tup xs)) : NoT H b := fun xs r => by
  rcases r with r | ⟨u, r⟩ <;> rw [h] at r <;> injection r with r
  · exact h1 xs r
  · exact h2 u xs r
theorem Kt.upd1 (n : NoT H b) : Kt H (upd H b o) := fun a xs h => by
  by_cases hz : a = b
  · subst hz; exact absurd h (n xs)
  · exact rd_at (fun o ho => by rw [upd_ne hz]; exact ho) h
theorem Kp.kt1 (e : Kp [b] H H') (n : NoT H b) : Kt H H' := fun a xs h => by
  by_cases hz : a = b
  · subst hz; exact absurd h (n xs)
  · exact rd_at (fun o ho => e.at1 hz ho) h
theorem Bx.noT {d : Addr} (B : Bx H b d) : NoT H b := by
  obtain ⟨_, _, h, _⟩ := B.ex
  exact NoT.lst h
theorem Bx.kt {d : Addr} (B : Bx H b d) (e : Kp [b] H H') : Kt H H' := e.kt1 B.noT
theorem SqT.kt (e : Kt H H') (h : SqT K H a xs) : SqT K H' a xs := h.imp (e a xs) id
mutual
inductive Dt (K : PySem.W.Frag) (H : Hp) : V → PyData → Prop
  | non : Dt K H .non .none
  | bl (b : Bool) : Dt K H (.bl b) (.bool b)
  | int (i : Int) : Dt K H (.int i) (.int i)
  | str (x : Str) : Dt K H (.str x) (.str x)
  | tup {a : Addr} {xs : List V} {ds : List PyData} : SqT K H a xs → DtAll K H xs ds → Dt K H (.ref a) (.tuple ds)
inductive DtAll (K : PySem.W.Frag) (H : Hp) : List V → List PyData → Prop
  | nil : DtAll K H [] []
  | cons {v : V} {vs : List V} {d : PyData} {ds : List PyData} : Dt K H v d → DtAll K H vs ds → DtAll K H (v :: vs) (d :: ds)
end
mutual
theorem Dt.kt : ∀ {v : V} {d : PyData}, Kt H H' → Dt K H v d → Dt K H' v d
  | _, _, _, .non => .non
  | _, _, _, .bl b => .bl b
  | _, _, _, .int i => .int i
  | _, _, _, .str x => .str x
  | _, _, k, .tup h hs => .tup (SqT.kt k h) (DtAll.kt k hs)
theorem DtAll.kt : ∀ {vs : List V} {ds : List PyData}, Kt H H' → DtAll K H vs ds → DtAll K H' vs ds
  | _, _, _, .nil => .nil
  | _, _, k, .cons h hs => .cons (Dt.kt k h) (DtAll.kt k hs)
end
mutual
theorem Dt.dp : ∀ {v : V} {d : PyData}, Dt K H v d → Dp K H v d
  | _, _, .non => .non
  | _, _, .bl b => .bl b
  | _, _, .int i => .int i
  | _, _, .str x => .str x
  | _, _, .tup h hs => .tup h (DtAll.dp hs)
theorem DtAll.dp : ∀ {vs : List V} {ds : List PyData}, DtAll K H vs ds → DpAll K H vs ds
  | _, _, .nil => .nil
  | _, _, .cons h hs => .cons (Dt.dp h) (DtAll.dp hs)
end
mutual
/-- no lists in it -/
def tupD : PyData → Bool
  | .none | .bool _ | .int _ | .str _ => true
  | .tuple ds => tupDs ds
  | .list _ | .dict _ => false
def tupDs : List PyData → Bool
  | [] => true
  | d :: ds => tupD d && tupDs ds
end
mutual
theorem Dt.of : ∀ {v : V} {d : PyData}, Dp K H v d → tupD d = true → Dt K H v d
  | _, _, .non, _ => .non
  | _, _, .bl b, _ => .bl b
  | _, _, .int i, _ => .int i
  | _, _, .str x, _ => .str x
  | _, _, .lst h hs, z => by unfold tupD at z; cases z
  | _, _, .tup h hs, z => .tup h (DtAll.of hs (by unfold tupD at z; exact z))
theorem DtAll.of : ∀ {vs : List V} {ds : List PyData}, DpAll K H vs ds → tupDs ds = true → DtAll K H vs ds
  | _, _, .nil, _ => .nil
  | _, _, .cons h hs, z => by
    unfold tupDs at z
    rw [Bool.and_eq_true] at z
    exact .cons (Dt.of h z.1) (DtAll.of hs z.2)
end
theorem Dt.kp (h : Dt K H v d) (e : Kp [] H H') : Dt K H' v d := Dt.kt e.kt h
theorem DtAll.kp (h : DtAll K H xs ds) (e : Kp [] H H') : DtAll K H' xs ds := DtAll.kt e.kt h
theorem dt_tup (h : Dt K H v (.tuple ds)) : ∃ a xs, v = .ref a ∧ SqT K H a xs ∧ DtAll K H xs ds := by
  cases h with
  | tup h1 h2 => exact ⟨_, _, rfl, h1, h2⟩
theorem dt_str {s : Str} (h : Dt K H v (.str s)) : v = .str s := by cases h; rfl
theorem dt_int {i : Int} (h : Dt K H v (.int i)) : v = .int i := by cases h; rfl
theorem dt_none (h : Dt K H v .none) : v = .non := by cases h; rfl
theorem dta_nil (h : DtAll K H xs []) : xs = [] := by cases h; rfl
theorem dta_cons (h : DtAll K H xs (d :: ds)) : ∃ v vs, xs = v :: vs ∧ Dt K H v d ∧ DtAll K H vs ds := by
  cases h with
  | cons h1 h2 => exact ⟨_, _, rfl, h1, h2⟩
theorem dta_strs : ∀ {ys : List Str} {xs : List V}, DtAll K H xs (ys.map PyData.str) → xs = ys.map V.str
  | [], xs, h => dta_nil h
  | y :: r, xs, h => by
    obtain ⟨v, vs, rfl, h1, h2⟩ := dta_cons h
    rw [dt_str h1, dta_strs h2]
    rfl
theorem dta_of_strs : ∀ ys : List Str, DtAll K H (ys.map V.str) (ys.map PyData.str)
  | [] => .nil
  | y :: r => .cons (.str y) (dta_of_strs r)
theorem dta_len : ∀ {ds : List PyData} {xs : List V}, DtAll K H xs ds → xs.length = ds.length
  | [], xs, h => by rw [dta_nil h]; rfl
  | d :: r, xs, h => by
    obtain ⟨v, vs, rfl, h1, h2⟩ := dta_cons h
    rw [List.length_cons, List.length_cons, dta_len h2]
theorem dta_app {ys : List V} {es : List PyData} : ∀ {xs : List V} {ds : List PyData}, DtAll K H xs ds → DtAll K H ys es → DtAll K H (xs ++ ys) (ds ++ es)
  | [], ds, h, g => by cases h; exact g
  | x :: r, ds, h, g => by
    cases h with
    | cons h1 h2 => exact .cons h1 (dta_app h2 g)
theorem dta_snoc {xs : List V} {ds : List PyData} (h : DtAll K H xs ds) (g : Dt K H v d) : DtAll K H (xs ++ [v]) (ds ++ [d]) := dta_app h (.cons g .nil)
theorem dta_get : ∀ {xs : List V} {ds : List PyData} {i : Nat} {d : PyData}, DtAll K H xs ds → ds[i]? = some d → ∃ v, xs[i]? = some v ∧ Dt K H v d
  | [], ds, i, d, h, g => by cases h; simp at g
  | x :: r, ds, i, d, h, g => by
    cases h with
    | cons h1 h2 =>
      cases i with
      | zero => simp at g; subst g; exact ⟨x, rfl, h1⟩
      | succ i =>
        have q := dta_get (xs := r) (i := i) h2 g
        exact q
theorem dta_take {xs : List V} {ds : List PyData} (n : Nat) (h : DtAll K H xs ds) : DtAll K H (xs.take n) (ds.take n) := by
  induction n generalizing xs ds with
  | zero => exact .nil
  | succ n ih =>
    cases h with
    | nil => exact .nil
    | cons h1 h2 => exact .cons h1 (ih h2)
theorem dta_drop {xs : List V} {ds : List PyData} (n : Nat) (h : DtAll K H xs ds) : DtAll K H (xs.drop n) (ds.drop n) := by
  induction n generalizing xs ds with
  | zero => exact h
  | succ n ih =>
    cases h with
    | nil => exact .nil
    | cons h1 h2 => exact ih h2
theorem dta_cut {xs : List V} {ds : List PyData} (lo hi : Option Int) (h : DtAll K H xs ds) : DtAll K H (cutL xs lo hi) (cutL ds lo hi) := by
  unfold cutL
  rw [dta_len h]
  exact dta_take _ (dta_drop _ h)
/-- rows of texts as data -/
def strsD (ys : List Str) : PyData := .tuple (ys.map PyData.str)
theorem dt_strs {ys : List Str} (h : SqT K H a (ys.map V.str)) : Dt K H (.ref a) (strsD ys) := .tup h (dta_of_strs ys)
theorem strsD_of {ys : List Str} (h : Dt K H v (strsD ys)) : ∃ a, v = .ref a ∧ SqT K H a (ys.map V.str) := by
  obtain ⟨a, xs, rfl, h1, h2⟩ := dt_tup h
  rw [dta_strs h2] at h1
  exact ⟨a, rfl, h1⟩
theorem strsD_at {ys : List Str} (h : Dt K H (.ref a) (strsD ys)) : SqT K H a (ys.map V.str) := by
  obtain ⟨b, e, h1⟩ := strsD_of h
  injection e with e
  subst e
  exact h1
end
/-! ## texts sorted -/
def sortS (ys : List Str) : List Str := (sortF (ys.map fun y => (y, ()))).map Prod.fst
theorem map_fst (ys : List Str) : (ys.map fun y => (y, ())).map Prod.fst = ys := by rw [List.map_map]; exact List.map_id ys
theorem sortS_perm (ys : List Str) : (sortS ys).Perm ys := by
  have := (sortF_perm (ys.map fun y => (y, ()))).map Prod.fst
  rw [map_fst] at this
  exact this
theorem sortS_asc (ys : List Str) : (sortS ys).Pairwise leS := sortF_asc _
theorem sortS_of {ys zs : List Str} (h : ys.Perm zs) (hs : PyProof.Rows.sortedS ys = true) : ys = sortS zs := sorted_eq (h.trans (sortS_perm zs).symm) (sorted_pair hs) (sortS_asc zs)
theorem sortS_congr {ys zs : List Str} (h : ys.Perm zs) : sortS ys = sortS zs := sorted_eq ((sortS_perm ys).trans (h.trans (sortS_perm zs).symm)) (sortS_asc ys) (sortS_asc zs)
theorem sortS_id {ys : List Str} (h : ys.Pairwise leS) : sortS ys = ys := sorted_eq (sortS_perm ys) (sortS_asc ys) h
theorem sortS_len (ys : List Str) : (sortS ys).length = ys.length := (sortS_perm ys).length_eq
theorem c_sortedS {K : PySem.W.Frag} {H : Hp} {Q : VK} {a : Addr} {xs : List Str} (h : SqL K H a (xs.map V.str)) (hl : xs.length < 64) (q : ∀ p H', New H p (.lst ((sortS xs).map V.str)) H' → Q (.ref p) H') : rSortedS K [.ref a] H Q :=
  ⟨a, xs, rfl, h, hl, fun ys p hp hs hf => by rw [sortS_of hp hs]; exact q p _ ⟨hf, rfl⟩⟩
/-! ## comprehensions that make data -/
section
variable {K : PySem.W.Frag} {σ : St} {H : Hp} {g : TG} {tt : TT} {te : TE} {n : Nat} {Q : VK} {vs : List Nat} {J : It} {ok : Hp → Prop} {Y : Nat → V → Hp → Hp → Prop}
theorem range_filter_succ (p : Nat → Bool) (i : Nat) : (List.range (i + 1)).filter p = (List.range i).filter p ++ (if p i = true then [i] else []) := by
  rw [List.range_succ, List.filter_append]
  congr 1
  by_cases h : p i = true <;> simp [h]
theorem lcQ_dt (I : Itn J n ok Y) (f : Nat → PyData) (p : Nat → Bool) (hz : n ≤ 16777216) (hok : ∀ H', Kp [] H H' → ok H')
    (hs : ∀ i x H' H'' R S, i < n → Kp [] H H' → Y i x H' H'' → (p i = true → ∀ v H4, Kp [] H'' H4 → Dt K H4 v (f i) → R v H4) → (p i = false → ∀ H4, Kp [] H'' H4 → S H4) → LcM g tt te vs σ R S x H'')
    (hd : ∀ Dl ws H', H Dl = none → Kp [] H H' → H' Dl = some (.lst ws) → DtAll K H' ws (((List.range n).filter p).map f) → Q (.ref Dl) H') : LcJ J g tt te vs σ H Q := by
  refine lcQ I (fun Dl i acc H' => Kp [] H H' ∧ DtAll K H' acc (((List.range i).filter p).map f)) (fun Dl hD => ⟨Kp.new hD, .nil⟩) (fun Dl i acc H' hD e => hok H' e.1) ?_ ?_
  · rintro Dl i x acc H' H'' hD hi hacc hl ⟨e, hds⟩ y
    have k := I.kp i x H' H'' y
    refine hs i x H' H'' _ _ hi e y (fun hp v H4 e4 hv => ?_) (fun hp H4 e4 => ?_)
    · have ha4 := e4.at0 (k.at0 hacc)
      have kt : Kt H4 (upd H4 Dl (.lst (acc ++ [v]))) := Kt.upd1 (NoT.lst ha4)
      refine lc_push ha4 hl (by omega) ⟨((e.trans k).trans e4).fresh_mut hD, ?_⟩
      rw [range_filter_succ, if_pos hp, List.map_append]
      exact dta_snoc (DtAll.kt ((k.kt.trans e4.kt).trans kt) hds) (Dt.kt kt hv)
    · have ha4 := e4.at0 (k.at0 hacc)
      refine lc_skip ha4 hl ⟨(e.trans k).trans e4, ?_⟩
      rw [range_filter_succ, hp, if_neg Bool.false_ne_true, List.append_nil]
      exact DtAll.kt (k.kt.trans e4.kt) hds
  · rintro Dl acc H' hD hacc hl ⟨e, hds⟩
    exact hd Dl acc H' hD e hacc hds
theorem lcQ_fil (I : Itn J n ok Y) (f : Nat → V) (p : Nat → Bool) (hz : n ≤ 16777216) (hok : ∀ H', Kp [] H H' → ok H')
    (hs : ∀ i x H' H'' R S, i < n → Kp [] H H' → Y i x H' H'' → (p i = true → ∀ H4, Kp [] H'' H4 → R (f i) H4) → (p i = false → ∀ H4, Kp [] H'' H4 → S H4) → LcM g tt te vs σ R S x H'')
    (hd : ∀ Dl H', H Dl = none → Kp [] H H' → H' Dl = some (.lst (((List.range n).filter p).map f)) → Q (.ref Dl) H') : LcJ J g tt te vs σ H Q := by
  refine lcQ I (fun Dl i acc H' => Kp [] H H' ∧ acc = ((List.range i).filter p).map f) (fun Dl hD => ⟨Kp.new hD, rfl⟩) (fun Dl i acc H' hD e => hok H' e.1) ?_ ?_
  · rintro Dl i x acc H' H'' hD hi hacc hl ⟨e, rfl⟩ y
    have k := I.kp i x H' H'' y
    refine hs i x H' H'' _ _ hi e y (fun hp H4 e4 => ?_) (fun hp H4 e4 => ?_)
    · refine lc_push (e4.at0 (k.at0 hacc)) hl (by omega) ⟨((e.trans k).trans e4).fresh_mut hD, ?_⟩
      rw [range_filter_succ, if_pos hp, List.map_append]
      rfl
    · refine lc_skip (e4.at0 (k.at0 hacc)) hl ⟨(e.trans k).trans e4, ?_⟩
      rw [range_filter_succ, hp, if_neg Bool.false_ne_true, List.append_nil]
  · rintro Dl acc H' hD hacc hl ⟨e, rfl⟩
    exact hd Dl H' hD e hacc
end
/-! ## a text parted -/
section
variable {X : Cx} {H : Hp} {Q : VK} {s z : Str} {to te : TE} {o e : Expr}
def rPartU : V → List V → Hp → VK → Prop := fun x xs H Q => ∃ a b, x = .str a ∧ xs = [.str b] ∧ (b.length == 0) = false ∧ a.length ≤ sizeLine ∧
  ∀ p, H p = none → Q (.ref p) (upd H p (.tup [.str (Txt.partition a b).1, .str (Txt.partition a b).2.1, .str (Txt.partition a b).2.2]))
theorem pe_partitionU {apos pos : Pos} (ho : PE X o to) (he : PE X e te) (hs : starEach [e] X.env = [(false, eval e X.env)] := by rfl) (hbase : attributeBase o "partition" X.env (eval o X.env) = eval o X.env := by rfl) (hline : (apos.endLine == pos.line) = true := by rfl) :
    PE X (.Call (.Attribute o "partition" apos) [e] [] pos) (tM1 rPartU to te) := pe_partition ho he hs hbase hline
theorem c_parti (h0 : (z.length == 0) = false) (hl : s.length ≤ sizeLine) (q : ∀ p H', New H p (.tup [.str (Txt.partition s z).1, .str (Txt.partition s z).2.1, .str (Txt.partition s z).2.2]) H' → Q (.ref p) H') : rPartU (.str s) [.str z] H Q :=
  ⟨s, z, rfl, rfl, h0, hl, fun p hp => q p _ ⟨hp, rfl⟩⟩
theorem cutS_len (x : Str) (lo hi : Option Int) : (cutS x lo hi).length ≤ x.length := by
  rw [txt_of x, cutS_txt, txt_len, txt_len, List.length_take, List.length_drop]
  omega
end
end Sa

/-! Dicts: walks of keys, look-ups. -/
namespace Sa
open PySem L2
section
variable {K : PySem.W.Frag} {H H' H1 : Hp} {d a : Addr} {u : HO} {od : Obj} {kvs : List (Key × V)}
theorem lock_kp (h : H d = some u) (e : Kp [] (upd H d (.frz od u)) H') : Kp [] H (upd H' d u) := fun b o _ hb => by
  by_cases z : b = d
  · subst z; rw [upd_same, ← hb, h]
  · rw [upd_ne z]; exact e.at0 (by rw [upd_ne z]; exact hb)
theorem lock_kpm {b : Addr} (h : H d = some u) (n : d ≠ b) (e : Kp [b] (upd H d (.frz od u)) H') : Kp [b] H (upd H' d u) := fun c o hc hb => by
  by_cases z : c = d
  · subst z; rw [upd_same, ← hb, h]
  · rw [upd_ne z]; exact e c o hc (by rw [upd_ne z]; exact hb)
theorem lock_back : upd (upd H d (.frz od u)) d u = upd H d u := by rw [upd_upd]
theorem upd_self (h : H d = some u) : upd H d u = H := by
  funext b
  by_cases z : b = d
  · subst z; rw [upd_same, h]
  · rw [upd_ne z]
theorem itn_k {α : Type} {ys : List α} {f : α → Key} {g : α → V} : Itn (Itk d od (ys.map fun y => (f y, g y))) ys.length (fun H => H d = some (.frz od (.dK (ys.map fun y => (f y, g y))))) (Yq ys fun y => kV (f y)) where
  go := fun i H ok hi => ⟨ok, by rw [List.length_map]; exact hi⟩
  stop := fun i H ok hi => ⟨ok, by rw [List.length_map]; exact hi⟩
  yld := fun i H x H' ok hi y => by
    obtain ⟨e, k, v, h1, h2⟩ := y
    rw [List.getElem?_map] at h1
    obtain ⟨z, hz, e2⟩ := Option.map_eq_some_iff.mp h1
    injection e2 with e3 e4
    exact ⟨e, z, hz, by rw [h2, ← e3]⟩
  kp := fun i x H H' h => by rw [h.1]; exact Kp.refl
theorem Kt.lock {kvs : List (Key × V)} (h : H d = some (.dK kvs)) : Kt H (upd H d (.frz od (.dK kvs))) := Kt.upd1 (NoT.dK h)
theorem c_lockF {t : TS} {D : Ends} {σ : St} {kvs : List (Key × V)} (h : H d = some (.dK kvs)) (q : ∀ od, t ⟨fun σ' H' => H' d = some (.frz od (.dK kvs)) ∧ D.nx σ' (upd H' d (.dK kvs)), fun v H' => H' d = some (.frz od (.dK kvs)) ∧ D.rt v (upd H' d (.dK kvs)),
    fun σ' H' => H' d = some (.frz od (.dK kvs)) ∧ D.bk σ' (upd H' d (.dK kvs)), fun σ' H' => H' d = some (.frz od (.dK kvs)) ∧ D.ct σ' (upd H' d (.dK kvs))⟩ σ (upd H d (.frz od (.dK kvs)))) : tLock t D σ H := ⟨d, .dK kvs, h, trivial, q⟩
theorem c_lockE {t : TE} {Q : VK} {σ : St} {kvs : List (Key × V)} (h : H d = some (.dK kvs)) (q : ∀ od, t σ (upd H d (.frz od (.dK kvs))) fun v H' => H' d = some (.frz od (.dK kvs)) ∧ Q v (upd H' d (.dK kvs))) : tLockE t σ H Q := ⟨d, .dK kvs, h, trivial, q⟩
theorem c_iKeys {td : TE} {R : It → Hp → Prop} {σ : St} (h : td σ H fun x H1 => ∃ d o, x = .ref d ∧ ((∃ kvs, H1 d = some (.frz o (.dK kvs)) ∧ R (Itk d o kvs) H1) ∨ ∃ kvs, H1 d = some (.frz o (.dT kvs)) ∧ R (Itkt d o kvs) H1)) : iKeys td σ H R := h
theorem c_keysAt {g : TG} {tb : TS} {D : Ends} {σ : St} {od : Obj} {kvs : List (Key × V)} (h : H d = some (.frz od (.dK kvs))) (q : ForJ (Itk d od kvs) g tb D σ H) :
    ∃ d' o, V.ref d = .ref d' ∧ ((∃ kvs, H d' = some (.frz o (.dK kvs)) ∧ ForJ (Itk d' o kvs) g tb D σ H) ∨ ∃ kvs, H d' = some (.frz o (.dT kvs)) ∧ ForJ (Itkt d' o kvs) g tb D σ H) := ⟨d, od, rfl, .inl ⟨kvs, h, q⟩⟩
theorem c_keysAtC {g : TG} {tt : TT} {te : TE} {vs : List Nat} {Q : VK} {σ : St} {od : Obj} {kvs : List (Key × V)} (h : H d = some (.frz od (.dK kvs))) (q : LcJ (Itk d od kvs) g tt te vs σ H Q) :
    ∃ d' o, V.ref d = .ref d' ∧ ((∃ kvs, H d' = some (.frz o (.dK kvs)) ∧ LcJ (Itk d' o kvs) g tt te vs σ H Q) ∨ ∃ kvs, H d' = some (.frz o (.dT kvs)) ∧ LcJ (Itkt d' o kvs) g tt te vs σ H Q) := ⟨d, od, rfl, .inl ⟨kvs, h, q⟩⟩
/-! y in d -/
def DinK (neg : Bool) (x y : V) (H : Hp) (Q : VK) : Prop := ∃ a o, x = .ref a ∧ DGet H a y o ∧ Q (.bl (if neg then !o.isSome else o.isSome)) H
theorem c_din {ty td : TE} {σ : St} {Q : VK} (h : ty σ H fun y H1 => td σ H1 fun x H2 => DinK false x y H2 Q) : tDIn ty td σ H Q := h
theorem c_dnotin {ty td : TE} {σ : St} {Q : VK} (h : ty σ H fun y H1 => td σ H1 fun x H2 => DinK true x y H2 Q) : tDNotIn ty td σ H Q := h
def DGetK (x y : V) (H : Hp) (Q : VK) : Prop := ∃ a v, x = .ref a ∧ DGet H a y (some v) ∧ Q v H
theorem c_dgetK {H : Hp} {td ty : TE} {σ : St} {Q : VK} (h : td σ H fun x H1 => ty σ H1 fun y H2 => DGetK x y H2 Q) : tDGet td ty σ H Q := h
/-! d[y] = v -/
theorem c_dput {td ty tv : TE} {D : Ends} {σ : St} (h : tv σ H fun v H1 => td σ H1 fun x H2 => ty σ H2 fun y H3 => ∃ a H4, x = .ref a ∧ DPut H3 a y v H4 ∧ D.nx σ H4) : sDPut td ty tv D σ H := h
theorem c_dputAt {v : V} {k : Str} {kvs : List (Key × V)} {R : Hp → Prop} (h : H d = some (.dK kvs)) (hl : kvs.length < sizeLine) (q : R (upd H d (.dK (putK kvs (Sum.inr k) v)))) : ∃ a H4, V.ref d = .ref a ∧ DPut H a (.str k) v H4 ∧ R H4 := ⟨d, _, rfl, .inl ⟨kvs, Sum.inr k, h, rfl, hl, rfl⟩, q⟩
theorem c_dnew {Q : VK} {σ : St} (q : ∀ p H', New H p (.dK []) H' → Q (.ref p) H') : tDNewK σ H Q := fun p hp => q p _ ⟨hp, rfl⟩
theorem c_disp {trs : List (TE × TE)} {σ : St} {Q : VK} (h : ∀ p, H p = none → tPairs trs σ (upd H p (.dK [])) fun ps H2 => H2 p = some (.dK []) ∧ ∃ kvs : List (Key × V), ps = kvs.map (fun kv => (kV kv.1, kv.2)) ∧ kvs.length ≤ 15 ∧ Q (.ref p) (upd H2 p (.dK (mergeK [] kvs)))) : tDisp trs σ H Q := h
theorem c_pNil {σ : St} {Q : List (V × V) → Hp → Prop} (h : Q [] H) : tPairs [] σ H Q := h
theorem c_pCons {tk tv : TE} {r : List (TE × TE)} {σ : St} {Q : List (V × V) → Hp → Prop} (h : tk σ H fun x H1 => tv σ H1 fun y H2 => tPairs r σ H2 fun ps H3 => Q ((x, y) :: ps) H3) : tPairs ((tk, tv) :: r) σ H Q := h
/-! != of rows of texts -/
theorem c_neLS {K : PySem.W.Frag} {Q : VK} {a b : Addr} {ys zs : List Str} (ha : SqL K H a (ys.map V.str)) (hb : SqL K H b (zs.map V.str)) (h1 : ∀ y ∈ ys, okS y = true) (h2 : ∀ y ∈ zs, okS y = true) (q : Q (.bl (!decide (ys = zs))) H) : rNeU K (.ref a) (.ref b) H Q :=
  c_neD (dp_strs ha) (dp_strs hb) (shaped_strsL h1) (shaped_strsL h2) (by rw [PyData.eqv, eqvAll_strs]; exact q)
end
end Sa

/-! A new instance whose one argument is left to its default. -/
namespace Sa
open PySem L2
/-- how a method of two parameters binds where the second is left out -/
def BindD0 (m q : Str) (st : Stmt) (ps : List Str) : Prop := ∀ (T : Addr) (kV doc pm : Value) (an : Option Addr) (cdv ct : Value) (us its : List Value), us.length = 1 → its.length = 1 →
  ∃ k, bindArgs (PySem.W.fnOf m q (defArgs st) (defBody st) (defScope st) (.ref T) kV doc pm an cdv ct) ⟨us, []⟩ = seqItems? (.ref T) >>= k ∧ k (some its.toArray) = pure (ps.zip (us ++ its))
structure MethD (P : Program) (w : World) (K : PySem.W.Frag) (mg : Str → Option Value) (base : Heap) (CX : CXT) (C m : Str) (k : Nat) (ps : List Str) (sp : Sp) (dv : V) : Prop where
  me : Meth K (He.ga K C) m (He.ma K (He.ga K C) m)
  ok : ∃ fd u, FnOk P w K mg base CX k (He.ma K (He.ga K C) m) fd ps sp ∧ Binds K fd ps [u] ∧ RelV dv u
section
variable {P : Program} {w : World} {K : PySem.W.Frag} {mg : Str → Option Value} {base : Heap}
theorem Tx.cstA {fa : List He.Fa} {fn : List He.DefD} {fx : List Fx} (T : Tx fa fn fx K mg) (i : Nat) {p : PySem.W.Frag → Addr} {d : PyData} (h : fx[i]? = some (.cstA p d)) (H : Hp) : Dp K H (.ref (p K)) d := cst_ref (T.fx i h) H
theorem meth_ofXD0 {fa : List He.Fa} {fn : List He.DefD} {fx : List Fx} (T : Tx fa fn fx K mg) (i j : Nat) {C m q : Str} {st : Stmt} {N ps : List Str} {k : Nat} {sp : Sp} {d : He.Dv} (S : FnScope N ps (defScope st)) (B : BindD0 m q st ps) (h2 : ps.length = 2)
    (len : ∀ vs H Q E, sp vs H Q E → vs.length = ps.length) (body : BodyMX P w K mg base C m q st N k sp) (hd : fn[i]? = some (dOfMd C m q st [d]) := by rfl) (hg : fa[j]? = some (.meth C m) := by rfl) : MethD P w K mg base (L2.CX P w) C m (k + 1) ps sp (He.Dv.v K d) := by
  have me := He.meth_ok (T.fact j hg)
  obtain ⟨hp, X, G, c, _⟩ := T
  obtain ⟨fd, F⟩ := c.def_ i hd
  obtain ⟨vs, r, b⟩ := F.binds1 (ps := ps) 1 0 (List.cons_ne_nil _ _) (by show 1 + (1 - 0) = ps.length; rw [h2]) (fun T kV doc pm an cdv ct us its h1 h2 => by
    obtain ⟨k, e1, e2⟩ := B T kV doc pm an cdv ct us its h1 h2
    exact ⟨k, e1, e2⟩)
  have r' : Vals [He.Dv.v K d] vs := r
  cases r' with
  | cons r1 r2 =>
    cases r2
    exact ⟨me, fd, _, F.ok S len fun cdv A outer s H vs Q E hr h => body cdv A outer s H vs Q E h hr (takes_of rfl rfl rfl rfl), b, r1⟩
end
/-- C() where the default stands for its argument -/
def tNewD (K : PySem.W.Frag) (C : Str) (sp : Sp) (dv : V) (E : St → XK) : TE := fun σ H Q => NewK K C sp [dv] H Q (E σ)
theorem c_newD {K : PySem.W.Frag} {C : Str} {sp : Sp} {dv : V} {E : St → XK} {σ : St} {H : Hp} {Q : VK} (h : NewK K C sp [dv] H Q (E σ)) : tNewD K C sp dv E σ H Q := h
section
variable {X : Cx} {CX : CXT} {K : PySem.W.Frag} {C : Str} {k j : Nat} {ps : List Str} {sp : Sp} {dv : V} {E : St → XK} {p pos : Pos}
theorem pe_newD (M : MethD X.prog X.w X.K X.mg X.base CX C "__init__" j ps sp dv) (mk : Mk X.K (He.ga X.K C) (He.ma X.K (He.ga X.K C) "__init__")) (c : ClsAt X.K X.mg C) (hr : Room (k + 1) X.A) (hx : ∀ σ, PassesAt CX X σ (E σ))
    (hjk : j ≤ k := by decide) (hK : X.K = K := by rfl) (hg : Gl X C := by rfl)
    (hdb : (C == ("__debug__" : Str)) = false := by decide) :
    PE X (.Call (.Name C p) [] [] pos) (tNewD K C sp dv E) := by
  subst hK
  obtain ⟨fd, u0, F0, B, rd⟩ := M.ok
  have F := F0.mono hjk
  refine ⟨fun pins s σ H Q I q => ?_⟩
  refine wpAny_Call_Name_kw (ld_glob I hg c.gl ?_ hdb)
  refine PySem.W.callWith_K0 I.kIn mk.kp ?_
  have hq := q (s.heap.objs.size + 1) s.heap.objs.size (I.hok.fresh (Nat.le_succ _)) (I.hok.fresh (Nat.le_refl _)) (Nat.ne_of_lt (Nat.lt_succ_self _))
  have I2 := Inv.made (C := He.ga X.K C) I
  have r2 : Vals [V.ref (s.heap.objs.size + 1), dv] [Value.ref (s.heap.objs.size + 1), u0] := .cons rfl (.cons rd .nil)
  have hl : ([Value.ref (s.heap.objs.size + 1)] ++ [u0]).length = ps.length := by
    have := F.len _ _ _ _ hq
    rw [← this]
    rfl
  have b := B _ [Value.ref (s.heap.objs.size + 1)] I2.kIn hl
  refine wpAny_call (make_map (f := He.ma X.K (He.ga X.K C) "__init__") I.kIn mk.makes mk.init (beq_iff_eq.mp mk.fn) (codeAny_mono (F.run _ X.stack _ _ ⟨[Value.ref (s.heap.objs.size + 1)], []⟩ [Value.ref (s.heap.objs.size + 1), u0] _ _ (E σ)
    (hr.make (He.ga X.K C) [] []) (I2.env0.make (He.ga X.K C) [] []) b r2 hq) fun rr s' hq' => ?_))
  cases rr with
  | error er => exact hx σ pins _ _ er s' I2 hq'
  | ok fl =>
    cases fl with
    | ret u =>
      obtain ⟨v, H', I3, rv, ev, q3⟩ := I2.after hq'
      subst ev
      exact ⟨rv, ⟨V.ref (s.heap.objs.size + 1), H', I3, rfl, q3⟩⟩
    | next => exact False.elim hq'
    | brk => exact False.elim hq'
    | cont => exact False.elim hq'
end
end Sa

/-! Errors of classes without an __init__ of their own, made with one written text. -/
namespace Sa
open PySem L2
structure ExcO (K : PySem.W.Frag) (mg : Str → Option Value) (x : Str) : Prop where
  gl : mg x = some (.ref (He.ga K x))
  ex : PySem.W.excIn K (He.ga K x) He.veBase "ValueError.__new__" = true
  kp : PySem.W.keepIn K (.ref (He.ga K x)) = true
  sb : PySem.W.subIn K (.ref (He.ga K x)) (.type "BaseException") = some true
  ty : PySem.W.typeIn K (.ref (He.ga K x)) = some (.type "type")
theorem Tx.exo {fa : List He.Fa} {fn : List He.DefD} {fx : List Fx} {K : PySem.W.Frag} {mg : Str → Option Value} (T : Tx fa fn fx K mg) (i j : Nat) {x : Str} (h : fa[i]? = some (.glo x) := by rfl) (h2 : fa[j]? = some (.exc x) := by rfl) : ExcO K mg x := by
  obtain ⟨a, b, c, d⟩ := He.exc_ok (T.fact j h2)
  exact ⟨T.glo i h, a, b, c, d⟩
def tRaiseO (K : PySem.W.Frag) (x : Str) (W : WX) : TS := fun _ σ H => W (.ref (He.ga K x)) none σ H
theorem c_raiseO {K : PySem.W.Frag} {x : Str} {W : WX} {D : Ends} {σ : St} {H : Hp} (h : W (.ref (He.ga K x)) none σ H) : tRaiseO K x W D σ H := h
theorem ps_raiseO {X : Cx} {K : PySem.W.Frag} {x m : Str} {j : Nat} {W : WX} {p p2 pos pos2 : Pos} (F : ExcO X.K X.mg x) (tk : Takes X W) (hK : X.K = K := by rfl) (hg : Gl X x := by rfl) (hc : X.calm = true := by rfl) (hdb : (x == ("__debug__" : Str)) = false := by decide) :
    PS X (.Raise (some (.Call (.Name x p) [.Constant (.str m) j p2] [] pos)) none pos2) (tRaiseO K x W) := by
  subst hK
  exact ps_raise hc tk (pmk_own PySem.F.excBase_ValueError F.ex F.gl F.kp (raises_own F.sb F.ty) hg hdb)
/-! ## isinstance of a caught error -/
theorem exiB_ok {K : PySem.W.Frag} {D : Addr} (h : exiB K D = true) : ExcC K D := by
  unfold exiB at h
  simp only [Bool.and_eq_true, decide_eq_true_eq] at h
  obtain ⟨h1, h2, h3, h4, h5, h6, h7, h8⟩ := h
  exact ⟨h1, h2, h3, h4, h5, h6, h7, h8⟩
theorem Tx.exi {fa : List He.Fa} {fn : List He.DefD} {fx : List Fx} {K : PySem.W.Frag} {mg : Str → Option Value} (T : Tx fa fn fx K mg) (i : Nat) {x : Str} (h : fx[i]? = some (.exi x) := by rfl) : ExcC K (He.ga K x) := exiB_ok (T.fx i h)
theorem Tx.kit {fa : List He.Fa} {fn : List He.DefD} {fx : List Fx} {K : PySem.W.Frag} {mg : Str → Option Value} (T : Tx fa fn fx K mg) (i : Nat) {x y : Str} {b : Bool} (h : fx[i]? = some (.kit x y b) := by rfl) : PySem.W.kitOne K (.ref (He.ga K x)) (.ref (He.ga K y)) = some b := of_decide_eq_true (T.fx i h)
def rIsEU (K : PySem.W.Frag) (a : Addr) (cls : Value) (d : Option Addr) : List V → Hp → VK → Prop := fun xs H Q => ∃ D, cls = .ref D ∧ d = none ∧ ExcC K D ∧ rIsE K D a xs H Q
theorem cr_isE {X : Cx} {a : Addr} {oe : Obj} {cls : Value} {d : Option Addr} {pn : List (Addr × Obj)} {K : PySem.W.Frag} (hz : Zc cls d oe) (hf : ∃ vs, oe.data = .fields vs) (hK : X.K = K := by rfl) : CallR (X.suite a ((a, oe) :: pn)) (.builtin "isinstance") (rIsEU K a cls d) := by
  subst hK
  intro pins s σ H xs us Q I r h
  obtain ⟨D, rfl, rfl, C, h⟩ := h
  exact call_isE C hz hf pins s σ H xs us Q I r h
theorem c_isE {K : PySem.W.Frag} {a D C : Addr} {b : Bool} {H : Hp} {Q : VK} (hD : ExcC K D) (hk : PySem.W.kitOne K (.ref D) (.ref C) = some b) (q : Q (.bl b) H) : rIsEU K a (.ref D) none [.ref a, .ref C] H Q :=
  ⟨D, rfl, rfl, hD, .ref C, .ref C, b, rfl, fun u r => by cases r; rfl, hk, q⟩
/-! ## membership in a list of data -/
theorem u65 {k : Nat} {A : Around} (r : Room k A) : A.units + 65 < cLine := by have := un100 r; omega
theorem op_inDU {X : Cx} {K : PySem.W.Frag} (hu : X.A.units + 65 < cLine) (hK : X.K = K := by rfl) : OpR X (compareOp .In) (rInD K) := hK ▸ op_inD hu
theorem op_notInDU {X : Cx} {K : PySem.W.Frag} (hu : X.A.units + 65 < cLine) (hK : X.K = K := by rfl) : OpR X (compareOp .NotIn) (rNotInD K) := hK ▸ op_notInD hu
theorem c_inD {K : PySem.W.Frag} {H : Hp} {Q : VK} {x y : V} {d : PyData} {ds : List PyData} (hx : Dp K H x d) (hy : Dp K H y (.list ds)) (s1 : SeqAt.shaped d = true) (s2 : SeqAt.shaped (.list ds) = true) (q : Q (.bl (ds.any fun z => PyData.eqv z d)) H) : rInD K x y H Q := ⟨d, ds, hx, hy, s1, s2, q⟩
theorem c_notInD {K : PySem.W.Frag} {H : Hp} {Q : VK} {x y : V} {d : PyData} {ds : List PyData} (hx : Dp K H x d) (hy : Dp K H y (.list ds)) (s1 : SeqAt.shaped d = true) (s2 : SeqAt.shaped (.list ds) = true) (q : Q (.bl (!ds.any fun z => PyData.eqv z d)) H) : rNotInD K x y H Q := ⟨d, ds, hx, hy, s1, s2, q⟩
end Sa

/-! list.count over data of any depth; list.pop at a place. -/
namespace Sa
open PySem L2 PySem.Spec PyProof.Rows
def rCntD (K : PySem.W.Frag) : V → List V → Hp → VK → Prop := fun x xs H Q => ∃ (a : Addr) (y : V) (d : PyData) (ds : List PyData), x = V.ref a ∧ xs = [y] ∧ Dp K H (V.ref a) (.list ds) ∧ Dp K H y d ∧
  SeqAt.shaped (.list ds) = true ∧ SeqAt.shaped d = true ∧ Q (.int (ds.countP (fun z => PyData.eqv z d) : Nat)) H
theorem mt_lcountD {X : Cx} (hu : X.A.units + 65 < cLine) : MtR X "list.count" (rCntD X.K) := by
  intro pins s σ H x xs v us Q I rx rxs h
  obtain ⟨a, y, d, ds, rfl, rfl, hl, hy, sl, sd, q⟩ := h
  cases rx
  cases rxs with
  | cons ry rt =>
    rename_i uy ut
    cases rt
    obtain ⟨bs, r1⟩ := Dp.reads I d y uy hy ry
    have hxs : PyData.canLayAll0 ds = true := SeqAt.canLay_of_shaped sl
    have hroom : X.A.units + 1 + min (PyData.depthAll ds) d.depth < cLine := room_in_shaped sd hu
    cases hl with
    | lst hs ha =>
      obtain ⟨its, rv, ⟨⟨cls, dd, data, sls⟩, n, ho, hc, hdn, hdt⟩, hlen⟩ := I.list hs
      simp only at hc hdt
      subst hc hdt
      obtain ⟨as, h4⟩ := Dp.readsAll I ds _ its ha rv
      have hmap : its.map (SeqAt.readOf s.heap) = ds := SeqAt.readsAll_map ds its as hxs h4
      refine call_meets PySem.F.slot_list_count ⟨_, ho, rfl⟩ PySem.F.entry_list_count (PySem.F.args_list_count_2 _ _)
        (SeqAt.list_countAt a its.toArray n dd sls uy (fun u => PyData.eqv (SeqAt.readOf s.heap u) d)) ⟨ho, SeqAt.items_eqAt (vs := its.toArray) (show ReadsAll s.heap its.toArray.toList ds as from h4) r1 hxs (SeqAt.canLay_of_shaped sd) hroom, ?_⟩
      have ec : its.toArray.toList.countP (fun u => PyData.eqv (SeqAt.readOf s.heap u) d) = ds.countP (fun z => PyData.eqv z d) := by
        rw [← hmap, List.countP_map]
        rfl
      refine ⟨.int (ds.countP (fun z => PyData.eqv z d) : Nat), H, I.tok _, ⟨s.toks, ?_⟩, q⟩
      show Value.int ((its.toArray.toList.countP _ : Nat) : Int) s.toks = Value.int ((ds.countP _ : Nat) : Int) s.toks
      rw [ec]
theorem c_cntD {K : PySem.W.Frag} {a : Addr} {y : V} {H : Hp} {Q : VK} {d : PyData} {ds : List PyData} (hl : Dp K H (.ref a) (.list ds)) (hy : Dp K H y d) (s1 : SeqAt.shaped (.list ds) = true) (s2 : SeqAt.shaped d = true) (q : Q (.int (ds.countP (fun z => PyData.eqv z d) : Nat)) H) : rCntD K (.ref a) [y] H Q := ⟨a, y, d, ds, rfl, rfl, hl, hy, s1, s2, q⟩
section
variable {X : Cx} {K : PySem.W.Frag} {o e : Expr} {to te : TE} {apos cpos : Pos}
theorem pe_lcountU (hu : X.A.units + 65 < cLine) (ho : PE X o to) (he : PE X e te) (hK : X.K = K := by rfl) (hbase : attributeBase o "count" X.env (eval o X.env) = eval o X.env := by rfl)
    (hfew : ((backTo cpos (starEach [e] X.env)).all (fun x => !x.1) && (backToKw cpos (keywordEach [] X.env)).all (fun x => x.1.isSome)
      && decide (([e] : List Expr).length + ([] : List Keyword).length + (if ([] : List Keyword).isEmpty then 0 else 1) < 30)) = true := by rfl)
    (hline : (apos.endLine == cpos.line) = true := by rfl) (hs : starEach [e] X.env = (false, eval e X.env) :: starEach [] X.env := by rfl) (hplain : (backTo cpos (starEach [] X.env)).any (·.1) = false := by rfl) :
    PE X (.Call (.Attribute o "count" apos) [e] [] cpos) (tBM K "list" (rCntD K) to (tCons te tNil)) := by
  subst hK
  exact pe_bm PySem.F.plainAttrs_list PySem.F.slot_list_count PySem.F.type_list_count (mt_lcountD hu) ho (pa_cons he pa_nil hs) hbase hfew hline hs hplain
theorem pe_popAtU (ho : PE X o to) (he : PE X e te) (hK : X.K = K := by rfl) (hbase : attributeBase o "pop" X.env (eval o X.env) = eval o X.env := by rfl)
    (hfew : ((backTo cpos (starEach [e] X.env)).all (fun x => !x.1) && (backToKw cpos (keywordEach [] X.env)).all (fun x => x.1.isSome)
      && decide (([e] : List Expr).length + ([] : List Keyword).length + (if ([] : List Keyword).isEmpty then 0 else 1) < 30)) = true := by rfl)
    (hline : (apos.endLine == cpos.line) = true := by rfl) (hs : starEach [e] X.env = (false, eval e X.env) :: starEach [] X.env := by rfl) (hplain : (backTo cpos (starEach [] X.env)).any (·.1) = false := by rfl) :
    PE X (.Call (.Attribute o "pop" apos) [e] [] cpos) (tBM K "list" rPopAt to (tCons te tNil)) := by
  subst hK
  exact pe_bm PySem.F.plainAttrs_list PySem.F.slot_list_pop PySem.F.type_list_pop mt_popAt ho (pa_cons he pa_nil hs) hbase hfew hline hs hplain
theorem c_popAt {l : Addr} {xs : List V} {i : Nat} {y : V} {H : Hp} {Q : VK} (h : H l = some (.lst xs)) (hi : xs[i]? = some y) (hl : xs.length < 1000000) (q : Q y (upd H l (.lst (xs.eraseIdx i)))) : rPopAt (.ref l) [.int (i : Nat)] H Q := by
  have hlt := (List.getElem?_eq_some_iff.mp hi).1
  refine ⟨l, xs, i, i, y, rfl, rfl, h, by omega, by omega, ?_, hi, q⟩
  unfold seqIndex?
  simp only []
  split
  · omega
  · first | (rw [if_pos (by omega)]; simp) | simp [hlt]
end
end Sa

/-! is, is not, of a truth value and a written one; isinstance of a caught error that keeps fields. -/
namespace Sa
open PySem L2 PyProof.Rows
def rIsBl : V → V → Hp → VK → Prop := fun x y H Q => ∃ a b, x = .bl a ∧ y = .bl b ∧ Q (.bl (a == b)) H
def rIsNotBl : V → V → Hp → VK → Prop := fun x y H Q => ∃ a b, x = .bl a ∧ y = .bl b ∧ Q (.bl (a != b)) H
theorem op_isBl {X : Cx} : OpR X (compareOp .Is) rIsBl := fun pins s σ H x y v u Q I rx ry h => by
  obtain ⟨a, b, rfl, rfl, q⟩ := h
  obtain rfl : v = Value.bool a := rx
  obtain rfl : u = Value.bool b := ry
  cases a <;> cases b <;> first
    | exact wpAny_is_self rfl ⟨.bl true, H, I, rfl, q⟩
    | exact wpAny_is_other rfl (fun z => by cases z) ⟨.bl false, H, I, rfl, q⟩
theorem op_isNotBl {X : Cx} : OpR X (compareOp .IsNot) rIsNotBl := fun pins s σ H x y v u Q I rx ry h => by
  obtain ⟨a, b, rfl, rfl, q⟩ := h
  obtain rfl : v = Value.bool a := rx
  obtain rfl : u = Value.bool b := ry
  cases a <;> cases b <;> first
    | exact wpAny_isNot_self rfl ⟨.bl false, H, I, rfl, q⟩
    | exact wpAny_isNot_other rfl (fun z => by cases z) ⟨.bl true, H, I, rfl, q⟩
section
variable {H : Hp} {Q : VK} {a b : Bool}
theorem c_isBl (q : Q (.bl (a == b)) H) : rIsBl (.bl a) (.bl b) H Q := ⟨a, b, rfl, rfl, q⟩
theorem c_isNotBl (q : Q (.bl (a != b)) H) : rIsNotBl (.bl a) (.bl b) H Q := ⟨a, b, rfl, rfl, q⟩
end
end Sa
/-! ## the class of an error that may have fields -/
namespace Sa.Kis
open PySem PySem.W PySem.Spec PySem.Calls PyProof.Rows L2
variable {K : Frag} {D x : Addr} {od : Option Obj} {ox : Obj}
theorem find_cls (C : ExcC K D) : findObj K D od "__class__" = some (.bind (.builtin "getset_descriptor.__get__") (.builtin "object.__class__")) := by
  obtain ⟨cd, hc, _⟩ := any_some C.hd
  simp only [findObj, hc, C.ha, C.hn, C.ht, Option.bind_some]
theorem cls_of {prog : Program} {w : World} {A : Around} {E : Value → Shared → Prop} {s : Shared} {Q : Option Value → Shared → Prop} (C : ExcC K D) (X : K.In s.heap) (I : W.InstAt s.heap x ox D od)
    (q : Q (some (.ref D)) { s with toks := s.toks + 1 }) : wpAny (model prog w) A (getAttr? (.ref x) "__class__") Q E s := by
  cases s with | mk hp g d t os =>
  have lt := I.type (M := model prog w)
  have lg := looks_findIn (M := model prog w) X C.hg
  have lk := looks_findIn (M := model prog w) X C.hk
  have lf := looks_find (M := model prog w) X I (find_cls C)
  have ls : Looks (model prog w) hp (isInstance (.ref x) (.type "BaseException")) true := lt.andThen (looks_subIn X C.hs)
  have n2 : (Value.builtin "BaseException.__getattribute__" == Value.builtin "object.__getattribute__") = false := by
    decide +kernel
  have n1 : (onTheHeap (Value.ref D) && Value.builtin "BaseException.__getattribute__" == Value.builtin "object.__getattribute__") = false := by
    rw [n2]; rfl
  have n0 : (false && onTheHeap (Value.builtin "BaseException.__getattribute__")) = false := rfl
  have up : onTheHeap (Value.ref D) = true := rfl
  unfold getAttr? getAttrBy? getAttrBy
  refine wpAny_bind ?_
  refine wpAny_mkText ?_
  refine wpAny_bind ?_
  refine wpAny_attempt ?_
  refine wpAny_holding ?_
  refine wpAny_bind (lt.at ?_)
  refine wpAny_bind (lg.at ?_)
  show wpAny _ _ (if (onTheHeap (Value.ref D) && Value.builtin "BaseException.__getattribute__" == Value.builtin "object.__getattribute__") = true then _ else _) _ _ _
  rw [n1, if_neg Bool.false_ne_true]
  unfold getAttrByItsOwn hookBefore
  refine wpAny_bind ?_
  rw [if_pos up]
  refine lk.at ?_
  refine wpAny_bind ?_
  refine wpAny_attempt ?_
  refine wpAny_holding ?_
  unfold callGetattribute
  rw [n0, if_neg Bool.false_ne_true]
  unfold boundAndCalled
  rw [PySem.F.excAttr_ValueError.ga.bind (.ref x)]
  refine wpAny_bind ?_
  refine wpAny_pure ?_
  show wpAny _ _ (call (.builtin "BaseException.__getattribute__") [.ref x, .str "__class__" t]) _ _ _
  refine wpAny_call ?_
  refine codeAny_call_builtin PySem.F.excAttr_ValueError.ga.plain PySem.F.entry_bexc_ga ?_
  refine @check_slot (model prog w) _ _ ⟨hp, g, d, t + 1, os⟩ "BaseException.__getattribute__" "BaseException" "__getattribute__" (.ref x)
    [.str "__class__" t] [] _ (by decide +kernel) (by decide +kernel) ls (PySem.F.args_bexc_ga (.ref x) (.str "__class__" t)) ?_
  unfold Builtin.«object.__getattribute__»
  refine wpAny_bind ?_
  refine wpAny_of_eq (a := ((Value.ref x : Value), [Value.str "__class__" t])) (by first | rfl | (simp only [slotArgs]; rfl)) ?_
  refine wpAny_bind ?_
  refine wpAny_pure ?_
  refine wpAny_bind (lt.at ?_)
  refine wpAny_bind (lf.at ?_)
  show wpAny _ _ (holding [Value.builtin "object.__class__"] (call (.builtin "getset_descriptor.__get__") [.builtin "object.__class__", .ref x, .ref D]) >>= ret) _ _ _
  refine wpAny_bind ?_
  refine wpAny_holding ?_
  refine wpAny_call (class_get (s := ⟨hp, g, d, t + 1, os⟩) (ox := ox) (od := od) X I C.hm ?_)
  refine wpAny_pure ?_
  show wpAny _ _ (handedOut (.ref D)) _ _ _
  rw [handedOut_of (v := .ref D) rfl]
  first
    | exact wpAny_pure (wpAny_pure q)
    | exact wpAny_pure q
    | exact wpAny_pure (wpAny_bind (wpAny_pure (wpAny_pure q)))
theorem kitx (C : ExcC K D) : KitX K (.ref x) (.ref D) (fun h => W.InstAt h x ox D od) where
  ty := fun _ _ _ I => I.type
  it := fun M h X _ => by
    obtain ⟨cd, hc, _⟩ := any_some C.hd
    unfold clsIn at hc
    split at hc
    · rename_i ho
      intro A' Q' E' s' k q
      unfold isType loadHead
      refine wpAny_bind ?_
      exact wpAny_loadPart (k _ _ (X _ _ ho)) (wpAny_pure q)
    · cases hc
  ne := (handS_kitx_exc (x := x) (ox := ox) C.hg C.hk C.hs C.hd C.ha C.hn C.ht C.hm).ne
  ca := fun X I k => cls_of C X I k
end Sa.Kis
namespace Sa
open PySem L2
def rIsEV (K : PySem.W.Frag) (a : Addr) (cls : Value) (d : Option Addr) : List V → Hp → VK → Prop := fun xs H Q => ∃ D, cls = .ref D ∧ ExcC K D ∧ (∀ dd, d = some dd → ∃ fs, H dd = some (.xd fs)) ∧ rIsE K D a xs H Q
theorem cr_isEV {X : Cx} {a : Addr} {oe : Obj} {cls : Value} {d : Option Addr} {pn : List (Addr × Obj)} {K : PySem.W.Frag} (hz : Zc cls d oe) (hf : ∃ vs, oe.data = .fields vs) (hK : X.K = K := by rfl) : CallR (X.suite a ((a, oe) :: pn)) (.builtin "isinstance") (rIsEV K a cls d) := by
  subst hK
  intro pins s σ H xs us Q I r h
  obtain ⟨D, rfl, C, hd, c, cv, b, rfl, hcv, e, q⟩ := h
  cases r with
  | cons rx rr =>
    cases rr with
    | cons rt rr =>
      cases rr
      cases rx
      have ec := hcv _ rt
      subst ec
      have at_ := (I.pin (a, oe) (List.mem_append.mpr (.inl List.mem_cons_self))).1
      obtain ⟨vs, hv⟩ := hf
      have J : ∃ od, PySem.W.InstAt s.heap a oe D od := by
        obtain ⟨oc, o1, oda, osl⟩ := oe
        obtain ⟨h1, h2⟩ := hz
        dsimp only at h1 h2 hv
        subst h1 h2 hv
        cases o1 with
        | none => exact ⟨none, at_, rfl, rfl, trivial⟩
        | some dd =>
          obtain ⟨fs, hfs⟩ := hd dd rfl
          obtain ⟨mA, ⟨ob, es, ep, ho, _⟩, _⟩ := I.hok dd _ hfs
          exact ⟨some ob, at_, rfl, rfl, ho⟩
      obtain ⟨od, J⟩ := J
      exact PySem.W.kia_one (Sa.Kis.kitx C) I.kIn J e (fun z => nomatch z) fun tk => ⟨.bl b, H, I.kept (t' := tk) fun _ _ z => z, rfl, q⟩
theorem c_isEV {K : PySem.W.Frag} {a D C : Addr} {b : Bool} {d : Option Addr} {H : Hp} {Q : VK} (hD : ExcC K D) (hk : PySem.W.kitOne K (.ref D) (.ref C) = some b) (hd : ∀ dd, d = some dd → ∃ fs, H dd = some (.xd fs)) (q : Q (.bl b) H) : rIsEV K a (.ref D) d [.ref a, .ref C] H Q :=
  ⟨D, rfl, hD, hd, .ref C, .ref C, b, rfl, fun u r => by cases r; rfl, hk, q⟩
theorem c_isE0 {K : PySem.W.Frag} {a D C : Addr} {b : Bool} {H : Hp} {Q : VK} (hD : ExcC K D) (hk : PySem.W.kitOne K (.ref D) (.ref C) = some b) (q : Q (.bl b) H) : rIsEV K a (.ref D) none [.ref a, .ref C] H Q := c_isEV hD hk (fun _ z => nomatch z) q
theorem c_isE1 {K : PySem.W.Frag} {a D C dd : Addr} {b : Bool} {fs : List (Str × V)} {H : Hp} {Q : VK} (hD : ExcC K D) (hk : PySem.W.kitOne K (.ref D) (.ref C) = some b) (hd : H dd = some (.xd fs)) (q : Q (.bl b) H) : rIsEV K a (.ref D) (some dd) [.ref a, .ref C] H Q :=
  c_isEV hD hk (fun d2 z => by injection z with z; subst z; exact ⟨fs, hd⟩) q
end Sa

/-! sorted of lists and tuples of data (tuples of texts and the like). -/
namespace Sa.Srt
open PySem PySem.W PySem.Calls PyProof.Rows
section
variable {prog : Program} {w : World} {A : Around} {E : Value → Shared → Prop} {s : Shared}
theorem coll_tup {l : Addr} {vs : List Value} {o : Obj} {n : Nat} {Q : List Value → Shared → Prop} (ho : s.heap.get? l = some o) (hc : o.cls = .type "tuple") (hd : o.data = .seq vs.toArray n) (hz : vs.length ≤ sizeLine)
    (h : Q vs { s with heap := (s.heap.push (seqObj "list" #[] 0)).update s.heap.objs.size (Obj.mapSeq (· ++ vs.toArray)) }) : wpAny (model prog w) A (collect (.ref l)) Q E s := by
  unfold collect
  refine wpAny_bind ?_
  refine wpAny_runValue ?_
  refine codeAny_builtin entry_proto_collect' ?_
  show wpAny _ _ (do again (.builtin "list.__iadd__" ⟨[← newList [], .ref l], []⟩)) _ _ s
  refine wpAny_bind ?_
  refine wpAny_newList ?_
  refine wpAny_pure ⟨Code.quiet_builtin _ (by decide +kernel), ?_⟩
  refine codeAny_builtin entry_list_iadd' ?_
  show wpAny _ _ (Builtin.List.listExtendWith (.ref s.heap.objs.size) (.ref l) (.ref s.heap.objs.size)) _ _ { s with heap := s.heap.push (seqObj "list" #[] 0) }
  unfold Builtin.List.listExtendWith
  have ho' : (s.heap.push (seqObj "list" #[] 0)).get? l = some o := Heap.get?_push_of_some _ ho
  refine wpAny_bind ?_
  refine wpAny_typeOf (T := "tuple") ⟨o, ho', hc⟩ ?_
  have ht : (Value.type "tuple" == Value.type "tuple") = true := by rfl
  rw [if_pos (by rw [ht]; simp)]
  refine wpAny_bind (listItems_at ho' hd ?_)
  have hn : (s.heap.push (seqObj "list" #[] 0)).get? s.heap.objs.size = some (seqObj "list" #[] 0) := Heap.get?_push_size _ rfl
  refine wpAny_bind (listItems_at (xs := #[]) (n := 0) hn rfl ?_)
  rw [if_neg (by simp)]
  refine wpAny_bind (listUpdate_at (xs := #[]) (n := 0) hn rfl ?_ (Nat.zero_le _) ?_)
  · refine wpAny_pure ?_
    show wpAny (model prog w) A (do
        let o ← load s.heap.objs.size
        match o.data with
        | .seq xs _ => pure xs.toList
        | _ => unsupported "internal:collect") Q E { s with heap := (s.heap.push (seqObj "list" #[] 0)).update s.heap.objs.size (Obj.mapSeq (· ++ vs.toArray)) }
    refine wpAny_bind (wpAny_load (get?_update_seq hn _) ?_)
    show wpAny _ _ (pure ((#[] : Array Value) ++ vs.toArray).toList) Q E _
    have e : ((#[] : Array Value) ++ vs.toArray).toList = vs := by simp
    rw [e]
    exact wpAny_pure h
  · show (#[] ++ vs.toArray).size ≤ sizeLine + 1
    simp only [Array.size_append, List.size_toArray, List.length_nil]
    omega
/-- sorted(x), x whatever is collected so -/
theorem srt_of {l : Addr} {vs : List Value} {Q : Value → Shared → Prop} (hz : vs.length ≤ sizeLine)
    (hcoll : ∀ (A' : Around) (Q' : List Value → Shared → Prop) (E' : Value → Shared → Prop), Q' vs { s with heap := (s.heap.push (seqObj "list" #[] 0)).update s.heap.objs.size (Obj.mapSeq (· ++ vs.toArray)) } → wpAny (model prog w) A' (collect (.ref l)) Q' E' s)
    (body : ∀ E' : Value → Shared → Prop, wpAny (model prog w) A.in1.in1 (Builtin.«list.sort» ⟨[.ref (s.heap.objs.size + 1)], []⟩) (fun f s' => f = .done (.ret .none) ∧ Q (.ref (s.heap.objs.size + 1)) s') E' { s with heap := copyHeap s.heap vs }) :
    wpAny (model prog w) A (call (.builtin "sorted") [.ref l]) Q E s := by
  refine call_function_entry kind_sorted plain_sorted entry_sorted (args_sorted1 _) ?_
  unfold Builtin.«sorted»
  refine wpAny_bind (m := checkCount "sorted" 1 1 _) (wpAny_pure ?_)
  refine wpAny_bind (hcoll _ _ _ ?_)
  refine wpAny_bind (wpAny_newList ?_ hz)
  have hsz : ((s.heap.push (seqObj "list" #[] 0)).update s.heap.objs.size (Obj.mapSeq (· ++ vs.toArray))).objs.size = s.heap.objs.size + 1 := by
    rw [Heap.size_update, size_push']
  show wpAny _ _ _ _ _ { s with heap := copyHeap s.heap vs }
  rw [hsz]
  refine wpAny_bind ?_
  refine wpAny_holding ?_
  refine wpAny_call_entry slot_list_sort ⟨_, copyHeap_at s.heap vs, rfl⟩ entry_list_sort ?body (args_list_sort _)
  case body =>
    refine wpAny_mono (body _) (fun f s' hf => ?_) fun _ _ e => e
    obtain ⟨rfl, hq⟩ := hf
    exact ⟨_, rfl, wpAny_pure ⟨_, rfl, hq⟩⟩
theorem srt_data {l : Addr} {vs : List Value} {ds : List PyData} {R : Value → PyData → Prop} {Q : Value → Shared → Prop} (hz : vs.length ≤ sizeLine)
    (hcoll : ∀ (A' : Around) (Q' : List Value → Shared → Prop) (E' : Value → Shared → Prop), Q' vs { s with heap := (s.heap.push (seqObj "list" #[] 0)).update s.heap.objs.size (Obj.mapSeq (· ++ vs.toArray)) } → wpAny (model prog w) A' (collect (.ref l)) Q' E' s)
    (e : EachIs R vs ds) (er : EachIs (fun v d => ∃ as, Reads s.heap v d as) vs ds) (hal : AllAlike ds) (hk : Sortable ds) (hu : ∀ d, d ∈ ds → A.units + 2 + d.depth < cLine)
    (h : ∀ out, out.length = ds.length → EachIs R out (ds.mergeSort (dataLe false id)) → Q (.ref (s.heap.objs.size + 1)) { s with heap := sortedAll s.heap vs (List.toArray out) }) :
    wpAny (model prog w) A (call (.builtin "sorted") [.ref l]) Q E s := by
  have hal' : AllAlike (ds.map id) := by rw [List.map_id]; exact hal
  have hk' : Sortable (ds.map id) := by rw [List.map_id]; exact hk
  have er' : EachIs (fun v d => ∃ as, Reads (sortingHeap (copyHeap s.heap vs) (s.heap.objs.size + 1) vs) v (id d) as) vs ds := er.mono fun _ _ ⟨as, r⟩ => ⟨as, PyProof.Rows.Reads.keeps (fun _ _ => sorting_copy_old) r⟩
  have S := SortsAt.data (prog := prog) (w := w) (A := A.in1.in1) (s := { s with heap := sortingHeap (copyHeap s.heap vs) (s.heap.objs.size + 1) vs }) (each_map (R := fun v d => ∃ as, Reads (sortingHeap (copyHeap s.heap vs) (s.heap.objs.size + 1) vs) v d as) id er') hal' hk' (fun d hd => hu d (by rw [List.map_id] at hd; exact hd))
  refine srt_of hz hcoll fun E' => ?_
  exact list_sort_vals (s := { s with heap := copyHeap s.heap vs }) (copyHeap_at s.heap vs) S hz ⟨rfl, h _ (by rw [sortVals_length false rfl]; exact e.length) (sortVals_data false e er' hal')⟩
end
end Sa.Srt
namespace Sa
open PySem L2 PySem.W PyProof.Rows
/-- the data in their order -/
def sortD (ds : List PyData) : List PyData := ds.mergeSort (dataLe false id)
def rSortDt (K : PySem.W.Frag) : List V → Hp → VK → Prop := fun vs H Q => ∃ (a : Addr) (xs : List V) (ds : List PyData), vs = [V.ref a] ∧ (SqL K H a xs ∨ SqT K H a xs) ∧ DtAll K H xs ds ∧ AllAlike ds ∧ Sortable ds ∧ (∀ d ∈ ds, d.depth ≤ 60) ∧
  ∀ (ys : List V) (p : Addr) (H' : Hp), New H p (.lst ys) H' → DtAll K H' ys (sortD ds) → Q (.ref p) H'
section
variable {X : Cx} {pins : List (Addr × Obj)} {σ : L2.St} {H : Hp} {s : Shared}
theorem each_dt {K : PySem.W.Frag} : ∀ {xs : List V} {us : List Value} {ds : List PyData}, Vals xs us → DtAll K H xs ds → EachIs (fun v d => ∃ x, RelV x v ∧ Dt K H x d) us ds
  | _, _, _, .nil, .nil => .nil
  | _, _, _, .cons r t, .cons h g => .cons ⟨_, r, h⟩ (each_dt t g)
theorem each_back {K : PySem.W.Frag} : ∀ {us : List Value} {ds : List PyData}, EachIs (fun v d => ∃ x, RelV x v ∧ Dt K H x d) us ds → ∃ xs, Vals xs us ∧ DtAll K H xs ds
  | _, _, .nil => ⟨[], .nil, .nil⟩
  | _, _, .cons ⟨x, r, h⟩ t => by
    obtain ⟨xs, h1, h2⟩ := each_back t
    exact ⟨x :: xs, .cons r h1, .cons h h2⟩
theorem cr_sortDt (hu : X.A.units + 65 < cLine) {K : PySem.W.Frag} (hK : X.K = K := by rfl) : CallR X (.builtin "sorted") (rSortDt K) := by
  subst hK
  intro pins s σ H vs us Q I r h
  obtain ⟨a, xs, ds, rfl, hs, hd, hal, hk, hdep, q⟩ := h
  rw [Vals.ref1 r]
  have fin : ∀ {its : List Value}, Vals xs its → its.length ≤ sizeLine → (∀ (A' : Around) (Q' : List Value → Shared → Prop) (E' : Value → Shared → Prop), Q' its { s with heap := (s.heap.push (seqObj "list" #[] 0)).update s.heap.objs.size (Obj.mapSeq (· ++ its.toArray)) } → wpAny (model X.prog X.w) A' (collect (.ref a)) Q' E' s) →
      wpAny (model X.prog X.w) X.A (call (.builtin "sorted") [.ref a]) (EP X pins σ Q) X.xe s := by
    intro its rv hz hcoll
    have ed := each_dt rv hd
    refine Sa.Srt.srt_data (R := fun v d => ∃ x, RelV x v ∧ Dt X.K H x d) hz hcoll ed (ed.mono fun v d ⟨x, h1, h2⟩ => Dp.reads I d x v h2.dp h1) hal hk (fun d hd' => by have := hdep d hd'; omega) fun out hl ho => ?_
    obtain ⟨ys, hy, hyd⟩ := each_back ho
    obtain ⟨ep, he'⟩ := PyProof.Rows.sortedAll_at s.heap its out.toArray
    have hlen : ys.length ≤ sizeLine := by
      rw [hy.length, hl, ← ed.length]
      exact hz
    have hf : H (s.heap.objs.size + 1) = none := I.hok.fresh (Nat.le_succ _)
    refine ⟨.ref _, upd H (s.heap.objs.size + 1) (.lst ys), I.laid (t' := s.toks) (fun _ _ => PyProof.Rows.sortedAll_old) (Nat.le_succ _) ⟨hlen, out, ep, hy, he'⟩, rfl, q ys _ _ ⟨hf, rfl⟩ (DtAll.kp hyd (Kp.new hf))⟩
  rcases hs with hs | hs
  · obtain ⟨its, rv, hl, hz⟩ := I.list hs
    exact fin rv (by rw [← rv.length]; exact hz) fun A' Q' E' h => PyProof.Rows.collect_list hl.isList h (by rw [← rv.length]; exact hz)
  · obtain ⟨its, rv, ⟨o, ho, hc, n, hd'⟩, hz⟩ := I.tuple hs
    exact fin rv (by rw [← rv.length]; exact hz) fun A' Q' E' h => Sa.Srt.coll_tup ho hc hd' (by rw [← rv.length]; exact hz) h
end
theorem c_sortDt {K : PySem.W.Frag} {H : Hp} {Q : VK} {a : Addr} {xs : List V} {ds : List PyData} (hs : SqL K H a xs ∨ SqT K H a xs) (hd : DtAll K H xs ds) (hal : AllAlike ds) (hk : Sortable ds) (hdep : ∀ d ∈ ds, d.depth ≤ 60)
    (q : ∀ (ys : List V) (p : Addr) (H' : Hp), New H p (.lst ys) H' → DtAll K H' ys (sortD ds) → Q (.ref p) H') : rSortDt K [.ref a] H Q := ⟨a, xs, ds, rfl, hs, hd, hal, hk, hdep, q⟩
theorem sortD_perm (ds : List PyData) : (sortD ds).Perm ds := List.mergeSort_perm ds _
section
variable {X : Cx} {K : PySem.W.Frag} {H : Hp} {Q : VK} {σ : L2.St} {e : Expr} {te : TE} {k : Nat} {p1 p2 p3 pos : Pos}
theorem pe_revLU (he : PE X e te) (hK : X.K = K := by rfl) : PE X (.Subscript e (.Slice none none (some (.UnaryOp .USub (.Constant (.int 1) k p1) p2)) p3) pos) (tRevL K te) := hK ▸ pe_revL he
theorem c_revL (h : te σ H fun x H1 => ∃ a xs, x = .ref a ∧ SqL K H1 a xs ∧ ∀ p, H1 p = none → Q (.ref p) (upd H1 p (.lst xs.reverse))) : tRevL K te σ H Q := h
theorem c_revAt {a : Addr} {xs : List V} (h : SqL K H a xs) (q : ∀ p H', New H p (.lst xs.reverse) H' → Q (.ref p) H') : ∃ a' xs, V.ref a = .ref a' ∧ SqL K H a' xs ∧ ∀ p, H p = none → Q (.ref p) (upd H p (.lst xs.reverse)) := ⟨a, xs, rfl, h, fun p hp => q p _ ⟨hp, rfl⟩⟩
end
end Sa
/-! ## d != {} -/
namespace Sa
open PySem L2 PyProof.Rows
def rNeE : V → V → Hp → VK → Prop := fun x y H Q => ∃ (a b : Addr) (ks : List (Key × V)), x = .ref a ∧ y = .ref b ∧ H a = some (.dK ks) ∧ H b = some (.dK []) ∧ Q (.bl (!ks.isEmpty)) H
theorem op_neE {X : Cx} (hu : X.A.units + 1 < cLine) : OpR X (compareOp .NotEq) rNeE := by
  intro pins s σ H x y v u Q I rx ry h
  obtain ⟨a, b, ks, rfl, rfl, ea, eb, q⟩ := h
  obtain rfl : v = Value.ref a := rx
  obtain rfl : u = Value.ref b := ry
  obtain ⟨_, ya, va, ra, da⟩ := (show ObjOk X.prog X.w H s.heap a (.dK ks) from I.hok a _ ea)
  obtain ⟨_, yb, vb, rb, db⟩ := (show ObjOk X.prog X.w H s.heap b (.dK []) from I.hok b _ eb)
  have lb : vb.length = 0 := rb.length.symm
  have la : va.length = ks.length := ra.length.symm
  refine PySem.W.keq_ne (knd := mixKind X.prog X.w) (r := true) ya yb da db (by omega) (fun h => ?_) (fin_bl I q ?_)
  · have : va = [] := List.eq_nil_of_length_eq_zero (by omega)
    rw [this]
    exact .nil
  · rw [la, lb]
    cases ks <;> simp
theorem c_neE {a b : Addr} {ks : List (Key × V)} {H : Hp} {Q : VK} (ha : H a = some (.dK ks)) (hb : H b = some (.dK [])) (q : Q (.bl (!ks.isEmpty)) H) : rNeE (.ref a) (.ref b) H Q := ⟨a, b, ks, rfl, rfl, ha, hb, q⟩
end Sa

/-! what is never reached; dict.pop; list.index and list.remove of whole numbers. -/
namespace Sa
open PySem L2 PySem.Spec PyProof.Rows
/-- a def under a second name -/
theorem DefAt.alias {P : Program} {w : World} {K : PySem.W.Frag} {mg : Str → Option Value} {base : Heap} {CX : CXT} {x y : Str} {k : Nat} {ps : List Str} {sp : Sp} (D : DefAt P w K mg base CX x k ps sp) (g : mg y = some (.ref (He.ga K y))) (e : He.ga K y = He.ga K x) : DefAt P w K mg base CX y k ps sp :=
  ⟨g, by rw [e]; exact D.kp, by rw [e]; exact D.ok⟩
theorem Tx.gaeq {fa : List He.Fa} {fn : List He.DefD} {fx : List Fx} {K : PySem.W.Frag} {mg : Str → Option Value} (T : Tx fa fn fx K mg) (i : Nat) {x y : Str} (h : fx[i]? = some (.gaeq x y) := by rfl) : He.ga K x = He.ga K y := of_decide_eq_true (T.fx i h)
def tNever : TE := fun _ _ _ => False
theorem pe_never {X : Cx} {e : Expr} : PE X e tNever := ⟨fun _ _ _ _ _ _ h => h.elim⟩
def rIxI (K : PySem.W.Frag) : V → List V → Hp → VK → Prop := fun x xs H Q => ∃ (a : Addr) (ns : List Int) (k : Int), x = V.ref a ∧ xs = [.int k] ∧ SqL K H a (ns.map V.int) ∧ k ∈ ns ∧ Q (.int (ns.idxOf k : Nat)) H
theorem idx_first : ∀ {ns : List Int} {k : Int}, k ∈ ns → ns[ns.idxOf k]? = some k ∧ ∀ m, m < ns.idxOf k → ns[m]? ≠ some k
  | [], k, h => absurd h (by simp)
  | a :: r, k, h => by
    by_cases e : a = k
    · subst e
      rw [List.idxOf_cons_self]
      exact ⟨rfl, fun m hm => absurd hm (Nat.not_lt_zero _)⟩
    · have hr : k ∈ r := by
        rcases List.mem_cons.mp h with z | z
        · exact absurd z.symm e
        · exact z
      obtain ⟨h1, h2⟩ := idx_first hr
      have ec : (a :: r).idxOf k = r.idxOf k + 1 := by rw [List.idxOf_cons, beq_false_of_ne e]; rfl
      rw [ec]
      refine ⟨h1, fun m hm => ?_⟩
      cases m with
      | zero => intro z; exact e (Option.some.inj z)
      | succ m => exact h2 m (by omega)
theorem mt_ixI {X : Cx} : MtR X "list.index" (rIxI X.K) := by
  intro pins s σ H x xs v us Q I rx rxs h
  obtain ⟨a, ns, k, rfl, rfl, hs, hk, q⟩ := h
  obtain ⟨h1, h2⟩ := idx_first hk
  refine mt_index pins s σ H _ _ v us Q I rx rxs ⟨a, ns.map V.int, .int k, ns.idxOf k, .int k, rfl, rfl, hs, rfl, ?_, by rw [List.getElem?_map, h1]; rfl, ?_, fun m z hm hz => ?_, q⟩
  · rw [List.all_eq_true]
    intro z hz
    obtain ⟨n, _, rfl⟩ := List.mem_map.mp hz
    rfl
  · show (k == k) = true
    simp
  · rw [List.getElem?_map] at hz
    obtain ⟨n, hn, rfl⟩ := Option.map_eq_some_iff.mp hz
    show (n == k) = false
    rw [beq_eq_false_iff_ne]
    intro e
    exact h2 m hm (by rw [hn, e])
def rRemI : V → List V → Hp → VK → Prop := fun x xs H Q => ∃ (l : Addr) (ns : List Int) (k : Int), x = .ref l ∧ xs = [.int k] ∧ H l = some (.lst (ns.map V.int)) ∧ k ∈ ns ∧ Q .non (upd H l (.lst ((ns.erase k).map V.int)))
theorem mt_remI {X : Cx} : MtR X "list.remove" rRemI := by
  intro pins s σ H x xs v us Q I rx rv h
  obtain ⟨l, ns, k, rfl, rfl, hH, hk, qy⟩ := h
  cases rx
  obtain ⟨u, rfl, ru⟩ := rv.one
  obtain ⟨t, rfl⟩ := ru
  obtain ⟨z, its, n, r, hl, e0⟩ := I.lstM hH
  have hi : IntsAre its ns := intsAre_of r
  have heq := eq_isInt k t hi
  have hnl : ns.length = its.length := by rw [← hl, List.length_map]
  have hsz : its.toArray.size ≤ sizeLine := by rw [List.size_toArray, ← hl]; exact z
  obtain ⟨j, j1, j2, j3, j4⟩ := first_at hk
  have hj : j < its.length := by omega
  refine call_meets PySem.F.slot_list_remove ⟨_, e0, rfl⟩ PySem.F.entry_list_remove (PySem.F.args_list_remove_2 _ _)
    (MeetsSeq.list_remove l its.toArray n (.int k t) (isInt k) (fun y hy => heq y (by simpa using hy)) j (by rw [List.size_toArray]; exact hj) ?hit (fun i hi2 hlt => ?hno) hsz) ⟨e0, ?_⟩
  case hit =>
    show isInt k its[j] = true
    exact (L2.isInt_at k hi j hj).mpr j2
  case hno =>
    have hi3 : i < its.length := by rw [List.size_toArray] at hi2; exact hi2
    show isInt k its[i] = false
    rw [Bool.eq_false_iff]
    intro w
    exact j3 i hlt ((L2.isInt_at k hi i hi3).mp w)
  have r2 : Vals ((ns.erase k).map V.int) (its.eraseIdx j) := by
    have w := r.eraseIdx j
    rw [map_eraseIdx', j4] at w
    exact w
  refine ⟨.non, _, I.lset (its' := its.eraseIdx j) hH e0 ?_ r2 ?_, rfl, qy⟩
  · show its.toArray.eraseIdxIfInBounds j = (its.eraseIdx j).toArray
    rw [List.eraseIdxIfInBounds_toArray]
  · rw [List.length_map]
    have := List.length_erase_le (a := k) (l := ns)
    rw [List.length_map] at z
    omega
section
variable {X : Cx} {K : PySem.W.Frag} {o e : Expr} {to te : TE} {apos cpos : Pos}
theorem pe_indexIU (ho : PE X o to) (he : PE X e te) (hK : X.K = K := by rfl) (hbase : attributeBase o "index" X.env (eval o X.env) = eval o X.env := by rfl)
    (hfew : ((backTo cpos (starEach [e] X.env)).all (fun x => !x.1) && (backToKw cpos (keywordEach [] X.env)).all (fun x => x.1.isSome)
      && decide (([e] : List Expr).length + ([] : List Keyword).length + (if ([] : List Keyword).isEmpty then 0 else 1) < 30)) = true := by rfl)
    (hline : (apos.endLine == cpos.line) = true := by rfl) (hs : starEach [e] X.env = (false, eval e X.env) :: starEach [] X.env := by rfl) (hplain : (backTo cpos (starEach [] X.env)).any (·.1) = false := by rfl) :
    PE X (.Call (.Attribute o "index" apos) [e] [] cpos) (tBM K "list" (rIxI K) to (tCons te tNil)) := by
  subst hK
  exact pe_bm PySem.F.plainAttrs_list PySem.F.slot_list_index PySem.F.type_list_index mt_ixI ho (pa_cons he pa_nil hs) hbase hfew hline hs hplain
theorem pe_removeIU (ho : PE X o to) (he : PE X e te) (hK : X.K = K := by rfl) (hbase : attributeBase o "remove" X.env (eval o X.env) = eval o X.env := by rfl)
    (hfew : ((backTo cpos (starEach [e] X.env)).all (fun x => !x.1) && (backToKw cpos (keywordEach [] X.env)).all (fun x => x.1.isSome)
      && decide (([e] : List Expr).length + ([] : List Keyword).length + (if ([] : List Keyword).isEmpty then 0 else 1) < 30)) = true := by rfl)
    (hline : (apos.endLine == cpos.line) = true := by rfl) (hs : starEach [e] X.env = (false, eval e X.env) :: starEach [] X.env := by rfl) (hplain : (backTo cpos (starEach [] X.env)).any (·.1) = false := by rfl) :
    PE X (.Call (.Attribute o "remove" apos) [e] [] cpos) (tBM K "list" rRemI to (tCons te tNil)) := by
  subst hK
  exact pe_bm PySem.F.plainAttrs_list PySem.F.slot_list_remove PySem.F.type_list_remove mt_remI ho (pa_cons he pa_nil hs) hbase hfew hline hs hplain
end
theorem pe_dpopU {X : Cx} {o e : Expr} {apos cpos : Pos} {td ty : TE} (ho : PE X o td) (he : PE X e ty) (hb : attributeBase o "pop" X.env (eval o X.env) = eval o X.env := by rfl)
    (hf : ((backTo cpos (starEach [e] X.env)).all (fun x => !x.1) && (backToKw cpos (keywordEach [] X.env)).all (fun x => x.1.isSome) && decide (([e] : List Expr).length + ([] : List Keyword).length + (if ([] : List Keyword).isEmpty then 0 else 1) < 30)) = true := by rfl)
    (hl : (apos.endLine == cpos.line) = true := by rfl) (ht : backTo cpos (starEach [e] X.env) = [(false, eval e X.env)] := by rfl) : PE X (.Call (.Attribute o "pop" apos) [e] [] cpos) (tDPop1 td ty) := pe_dpop1 ho he ⟨hb, hf, hl, ht⟩
/-- C() where __init__ has no further parameter -/
def tNew0 (K : PySem.W.Frag) (C : Str) (sp : Sp) (E : L2.St → XK) : TE := fun σ H Q => NewK K C sp [] H Q (E σ)
theorem c_new0 {K : PySem.W.Frag} {C : Str} {sp : Sp} {E : L2.St → XK} {σ : L2.St} {H : Hp} {Q : VK} (h : NewK K C sp [] H Q (E σ)) : tNew0 K C sp E σ H Q := h
theorem pe_new0 {X : Cx} {CX : CXT} {K : PySem.W.Frag} {C : Str} {k j : Nat} {ps : List Str} {sp : Sp} {E : L2.St → XK} {p pos : Pos} (M : MethAt X.prog X.w X.K X.mg X.base CX C "__init__" j ps sp) (mk : Mk X.K (He.ga X.K C) (He.ma X.K (He.ga X.K C) "__init__")) (c : ClsAt X.K X.mg C) (hr : Room (k + 1) X.A) (hx : ∀ σ, PassesAt CX X σ (E σ))
    (hjk : j ≤ k := by decide) (hK : X.K = K := by rfl) (hg : Gl X C := by rfl)
    (hdb : (C == ("__debug__" : Str)) = false := by decide) :
    PE X (.Call (.Name C p) [] [] pos) (tNew0 K C sp E) := by
  subst hK
  obtain ⟨fd, F0, B⟩ := M.ok
  have F := F0.mono hjk
  refine ⟨fun pins s σ H Q I q => ?_⟩
  refine wpAny_Call_Name_kw (ld_glob I hg c.gl ?_ hdb)
  refine PySem.W.callWith_K0 I.kIn mk.kp ?_
  have hq := q (s.heap.objs.size + 1) s.heap.objs.size (I.hok.fresh (Nat.le_succ _)) (I.hok.fresh (Nat.le_refl _)) (Nat.ne_of_lt (Nat.lt_succ_self _))
  have I2 := Inv.made (C := He.ga X.K C) I
  have r2 : Vals [V.ref (s.heap.objs.size + 1)] [Value.ref (s.heap.objs.size + 1)] := .cons rfl .nil
  have hl : ([Value.ref (s.heap.objs.size + 1)] ++ []).length = ps.length := by
    have := F.len _ _ _ _ hq
    rw [← this]
    rfl
  have b := B _ [Value.ref (s.heap.objs.size + 1)] I2.kIn hl
  rw [List.append_nil] at b
  refine wpAny_call (make_map (f := He.ma X.K (He.ga X.K C) "__init__") I.kIn mk.makes mk.init (beq_iff_eq.mp mk.fn) (codeAny_mono (F.run _ X.stack _ _ ⟨[Value.ref (s.heap.objs.size + 1)], []⟩ [Value.ref (s.heap.objs.size + 1)] _ _ (E σ)
    (hr.make (He.ga X.K C) [] []) (I2.env0.make (He.ga X.K C) [] []) b r2 hq) fun rr s' hq' => ?_))
  cases rr with
  | error er => exact hx σ pins _ _ er s' I2 hq'
  | ok fl =>
    cases fl with
    | ret u =>
      obtain ⟨v, H', I3, rv, ev, q3⟩ := I2.after hq'
      subst ev
      exact ⟨rv, ⟨V.ref (s.heap.objs.size + 1), H', I3, rfl, q3⟩⟩
    | next => exact False.elim hq'
    | brk => exact False.elim hq'
    | cont => exact False.elim hq'
theorem c_dpop1 {td ty : TE} {σ : L2.St} {H : Hp} {Q : VK} (h : td σ H fun x H1 => ∃ a, x = .ref a ∧ IsD H1 a ∧ ty σ H1 fun y H2 => ∃ kvs k v, H2 a = some (.dK kvs) ∧ y = kV k ∧ valV kvs k = some v ∧ Q v (upd H2 a (.dK (dropK kvs k)))) : tDPop1 td ty σ H Q := h
theorem c_ixI {K : PySem.W.Frag} {a : Addr} {ns : List Int} {k : Int} {H : Hp} {Q : VK} (h : SqL K H a (ns.map V.int)) (hk : k ∈ ns) (q : Q (.int (ns.idxOf k : Nat)) H) : rIxI K (.ref a) [.int k] H Q := ⟨a, ns, k, rfl, rfl, h, hk, q⟩
theorem c_remI {a : Addr} {ns : List Int} {k : Int} {H : Hp} {Q : VK} (h : H a = some (.lst (ns.map V.int))) (hk : k ∈ ns) (q : Q .non (upd H a (.lst ((ns.erase k).map V.int)))) : rRemI (.ref a) [.int k] H Q := ⟨a, ns, k, rfl, rfl, h, hk, q⟩
end Sa

open PySem L2 Sa
/-! ## tactics -/
-- heap look-ups
local macro_rules | `(tactic| walk_at "ne") => `(tactic| first | assumption | (apply Ne.symm; assumption) | (refine ne_of2 ?_ ?_ <;> assumption) | (apply Ne.symm; refine ne_of2 ?_ ?_ <;> assumption))
local macro_rules | `(tactic| walk_at "lk") => `(tactic| first
  | assumption
  | exact upd_same
  | ((with_reducible refine upd_new ?_ ?_); (· assumption); walk_at "lk")
  | ((with_reducible refine upd_other ?_ ?_); (· walk_at "ne"); walk_at "lk")
  | (with_reducible exact New.at_ (by assumption))
  | ((with_reducible refine New.keep (by assumption) ?_); walk_at "lk")
  | ((with_reducible refine New.sqL (by assumption) ?_); walk_at "lk")
  | ((with_reducible refine New.sqT (by assumption) ?_); walk_at "lk")
  | ((with_reducible refine Kp.at0 (by assumption) ?_); walk_at "lk")
  | ((with_reducible apply SqL.of); walk_at "lk")
  | ((with_reducible apply SqT.of); walk_at "lk")
  | ((with_reducible refine SqL.new ?_ ?_); (· assumption); walk_at "lk")
  | ((with_reducible refine SqT.new ?_ ?_); (· assumption); walk_at "lk"))
-- arithmetic of lengths
local macro_rules | `(tactic| walk_at "sz") => `(tactic| first | assumption | decide | (exact Nat.zero_le _) | (simp only [sizeLine_eq, List.length_cons, List.length_nil, List.length_append, List.length_map, List.length_replicate] at *; omega))
-- one step of a reading
local macro_rules | `(tactic| walk_at "s1") => `(tactic| first
  | (with_reducible apply c_seq)
  | ((with_reducible apply c_var); (exact rfl))
  | (with_reducible apply c_c)
  | (with_reducible apply c_op)
  | (with_reducible apply c_addI) | (with_reducible apply c_subI) | (with_reducible apply c_bandI)
  | (with_reducible refine c_bl ?_) | (with_reducible refine c_int ?_)
  | (with_reducible apply c_asg) | (with_reducible apply c_gName) | (with_reducible apply c_ret) | (with_reducible apply c_retN) | (with_reducible apply c_ifs) | (with_reducible apply c_drop)
  | (with_reducible apply c_test) | (with_reducible apply c_tB) | (with_reducible apply c_not) | (with_reducible apply c_and) | (with_reducible apply c_or)
  | (with_reducible apply c_eqI) | (with_reducible apply c_neI) | (with_reducible apply c_ltI) | (with_reducible apply c_leI) | (with_reducible apply c_gtI) | (with_reducible apply c_geI)
  | (with_reducible apply c_nil) | (with_reducible apply c_cons) | (with_reducible apply c_call) | (with_reducible apply c_cb) | (with_reducible apply c_tup) | (with_reducible apply c_lst)
  | (with_reducible apply c_sl) | (with_reducible apply c_noPart) | (with_reducible apply c_part) | (with_reducible apply c_bm) | (with_reducible apply c_bm0) | (with_reducible apply c_m1) | (with_reducible apply c_isStr)
  | (with_reducible apply c_chain) | (with_reducible apply c_andV) | (with_reducible apply c_orV) | (with_reducible apply c_notV) | (with_reducible apply c_if)
  | (with_reducible apply c_intI) | (with_reducible apply c_ord) | (with_reducible apply c_max2) | (with_reducible apply c_min2)
  | ((with_reducible apply c_mulI); (first | (exact Or.inr ⟨by decide, by decide⟩) | (exact Or.inl ⟨by decide, by decide⟩)))
  | ((with_reducible apply c_divI); (exact ⟨by decide, by decide⟩))
  | ((with_reducible apply c_modI); (first | decide | assumption | omega))
  | (with_reducible apply c_eqS) | (with_reducible apply c_neS) | (with_reducible apply c_eqB) | (with_reducible apply c_neB) | (with_reducible apply c_isN) | (with_reducible apply c_notN)
  | (with_reducible apply c_inC) | (with_reducible apply c_notInC)
  | (with_reducible refine c_truB ?_)
  | (with_reducible apply c_gSub)
  | (with_reducible apply c_next)
  | (with_reducible apply c_for) | (with_reducible apply c_lc) | (with_reducible apply c_rng1) | (with_reducible apply c_rng2) | (with_reducible apply c_iList) | (with_reducible apply c_iTup) | (with_reducible apply c_iStr)
  | ((with_reducible refine c_r1F ?_ ?_); (· first | decide | omega)) | ((with_reducible refine c_r2F ?_ ?_); (· first | decide | omega))
  | ((with_reducible apply c_itLF); (· walk_at "lk")) | ((with_reducible apply c_itTF); (· walk_at "lk")) | (with_reducible apply c_itSF)
  | ((with_reducible refine c_r1C ?_ ?_); (· first | decide | omega)) | ((with_reducible refine c_r2C ?_ ?_); (· first | decide | omega))
  | ((with_reducible apply c_itLC); (· walk_at "lk")) | ((with_reducible apply c_itTC); (· walk_at "lk")) | (with_reducible apply c_itSC)
  | ((with_reducible apply c_append); (· walk_at "lk"); (· walk_at "sz"))
  | (with_reducible apply c_yes)
  | (with_reducible apply c_newD) | (with_reducible apply c_dgetK) | (with_reducible apply c_din) | (with_reducible apply c_dnotin) | (with_reducible apply c_dput) | (with_reducible apply c_iKeys) | (with_reducible apply c_pNil) | (with_reducible apply c_pCons) | (with_reducible apply c_enumT) | (with_reducible apply c_iSeq) | (with_reducible apply c_lenSet) | (with_reducible apply c_dc) | (with_reducible apply c_fld) | (with_reducible apply c_setF) | (with_reducible apply c_meth) | (with_reducible apply c_newA) | (with_reducible apply c_dget1) | (with_reducible apply c_dget)
  | (with_reducible apply c_raiseE) | (with_reducible apply c_rng3) | (with_reducible apply c_enum) | (with_reducible apply c_callX) | (with_reducible apply c_xf)
  | (with_reducible apply c_it1) | (with_reducible apply c_it2) | (with_reducible apply c_it3) | (with_reducible apply c_it4)
  | (with_reducible apply c_gCons) | (with_reducible apply c_gNil)
  | ((with_reducible apply c_unL); (· walk_at "lk"); (· exact rfl)) | ((with_reducible apply c_unT); (· walk_at "lk"); (· exact rfl))
  | ((with_reducible apply c_lenS); (· walk_at "sz"))
  | ((with_reducible apply c_lenL); (· walk_at "lk"))
  | ((with_reducible apply c_lenT); (· walk_at "lk"))
  | ((with_reducible apply c_ixL); (· walk_at "lk"); (· exact rfl))
  | ((with_reducible apply c_ixT); (· walk_at "lk"); (· exact rfl))
  | ((with_reducible apply c_setL); (· walk_at "lk"); (· exact rfl))
  | ((with_reducible apply c_tyA); (· walk_at "lk")))
local macro_rules | `(tactic| walk_at "nw") => `(tactic| ((with_reducible refine c_nw ?_ ?_); (· walk_at "sz")))
local macro_rules | `(tactic| walk_at "st") => `(tactic| repeat (walk_at "s1"))
-- steps and ways, as far as they go
local macro_rules | `(tactic| walk_at "go") => `(tactic| repeat' (first | walk_at "s1" | ((with_reducible refine c_iteT ?_ ?_); (· exact rfl)) | ((with_reducible refine c_iteF ?_ ?_); (· exact rfl)) | ((with_reducible refine c_ite ?_ ?_) <;> intro hcnd) | ((with_reducible refine c_iteN ?_ ?_) <;> intro hcnd) | ((with_reducible refine c_iteNB ?_ ?_) <;> intro hcnd) | ((with_reducible refine c_iteB ?_ ?_) <;> intro hcnd) | fail))
-- ways that are settled by what is written
local macro_rules | `(tactic| walk_at "dc") => `(tactic| repeat' (first | walk_at "s1" | ((with_reducible refine c_iteF ?_ ?_); (· decide +kernel)) | ((with_reducible refine c_iteT ?_ ?_); (· decide +kernel)) | ((with_reducible refine c_iteF ?_ ?_); (· exact rfl)) | ((with_reducible refine c_iteT ?_ ?_); (· exact rfl)) | fail))
local macro_rules | `(tactic| walk_at "len") => `(tactic| first | (intro vs H Q E h; obtain ⟨_, e, _⟩ := h; subst e; rfl) | (intro vs H Q E h; obtain ⟨_, _, e, _⟩ := h; subst e; rfl) | (intro vs H Q E h; obtain ⟨_, _, _, e, _⟩ := h; subst e; rfl) | (intro vs H Q E h; obtain ⟨_, _, _, _, e, _⟩ := h; subst e; rfl) | (intro vs H Q E h; obtain ⟨_, _, _, _, _, e, _⟩ := h; subst e; rfl) | (intro vs H Q E h; obtain ⟨_, _, _, _, _, _, e, _⟩ := h; subst e; rfl) | (intro vs H Q E h; obtain ⟨_, _, _, _, _, _, _, e, _⟩ := h; subst e; rfl) | (intro vs H Q E h; obtain ⟨_, _, _, _, _, _, _, _, e, _⟩ := h; subst e; rfl) | (intro vs H Q E h; obtain ⟨_, _, _, _, _, _, _, _, _, e, _⟩ := h; subst e; rfl) | (intro vs H Q E h; obtain ⟨_, _, _, _, _, _, _, _, _, _, e, _⟩ := h; subst e; rfl) | (intro vs H Q E h; obtain ⟨_, _, _, _, _, _, _, _, _, _, _, e, _⟩ := h; subst e; rfl) | (intro vs H Q E h; obtain ⟨_, _, _, _, _, _, _, _, _, _, _, _, e, _⟩ := h; subst e; rfl))

namespace K36
open PySem L2 Sa
def top (i : Nat) : Stmt := PySem.Challenge.pw_sameanswers_k36_versions_of_a_trunk.main.body.getD i (.Pass ⟨0, 0, 0, 0⟩)
abbrev s_is_name : Stmt := top 17
abbrev s_is_path : Stmt := top 18
abbrev s_is_place : Stmt := top 19
abbrev s__is_plain : Stmt := top 20
abbrev s_is_line : Stmt := top 21
abbrev s_is_word : Stmt := top 22
abbrev s_is_lines : Stmt := top 23
abbrev s_is_inside : Stmt := top 24
abbrev s__are_files : Stmt := top 27
abbrev s_is_question : Stmt := top 33
abbrev s__check : Stmt := top 34
abbrev s_check_action : Stmt := top 35
abbrev s_places_of : Stmt := top 36
abbrev s__names : Stmt := top 37
abbrev s__rows : Stmt := top 38
abbrev s__ask : Stmt := top 39
abbrev s__is_blocked : Stmt := top 40
abbrev s__write : Stmt := top 41
abbrev s__move : Stmt := top 42
abbrev s__splice : Stmt := top 43
abbrev s_act : Stmt := top 44
abbrev s_next_row : Stmt := top 46
abbrev s_walk : Stmt := top 47
abbrev s_verdict : Stmt := top 50
abbrev s_run : Stmt := top 52
abbrev s_first_change : Stmt := top 53
abbrev s_holds : Stmt := top 54
abbrev s_lead : Stmt := top 55
abbrev s__law_cell : Stmt := top 65
abbrev s__law_digits : Stmt := top 66
abbrev s__law_draw : Stmt := top 67
abbrev s__law_alike : Stmt := top 68
abbrev s__law_path : Stmt := top 69
abbrev s__law_place : Stmt := top 70
abbrev s__law_lines : Stmt := top 71
abbrev s__law_question : Stmt := top 72
abbrev s__law_action : Stmt := top 73
abbrev s__law_table : Stmt := top 74
abbrev s__law_inside : Stmt := top 75
abbrev s__law_barred : Stmt := top 76
abbrev s__law_names : Stmt := top 77
abbrev s__law_found : Stmt := top 78
abbrev s__law_told : Stmt := top 79
abbrev s__law_with : Stmt := top 80
abbrev s__law_spliced : Stmt := top 81
abbrev s__law_act : Stmt := top 82
abbrev s__law_files : Stmt := top 83
abbrev s__law_run : Stmt := top 84
abbrev s__law_new : Stmt := top 85
abbrev s__law_leave : Stmt := top 86
abbrev s__law_event : Stmt := top 87
abbrev s__law_made : Stmt := top 88
abbrev s__law_made_trunk : Stmt := top 89
abbrev s__law_append : Stmt := top 90
abbrev s__law_submit : Stmt := top 91
abbrev s__law_version : Stmt := top 92
abbrev s__law_one : Stmt := top 93
abbrev s__law_versions : Stmt := top 94
abbrev s__law_stranger_raw : Stmt := top 95
abbrev s__law_stranger : Stmt := top 96
abbrev s__law_many : Stmt := top 97
abbrev s_law : Stmt := top 98
abbrev s_OutOfRange___init__ : Stmt := subAt (top 3) 0
abbrev s_Tree___init__ : Stmt := subAt (top 28) 0
abbrev s_Tree_files : Stmt := subAt (top 28) 1
abbrev s_Tree_lines : Stmt := subAt (top 28) 2
abbrev s_Tree_paths : Stmt := subAt (top 28) 3
abbrev s_Tree_above : Stmt := subAt (top 28) 4
abbrev s_Tree_is_folder : Stmt := subAt (top 28) 5
abbrev s_Tree_with_file : Stmt := subAt (top 28) 6
abbrev s_Tree_without : Stmt := subAt (top 28) 7
abbrev s_Session___init__ : Stmt := subAt (top 61) 0
abbrev s_Line___init__ : Stmt := subAt (top 62) 0
abbrev s_Line_first : Stmt := subAt (top 62) 1
abbrev s_Line_leave : Stmt := subAt (top 62) 2
abbrev s_Line_join : Stmt := subAt (top 62) 3
abbrev s_Line_count : Stmt := subAt (top 62) 4
abbrev s_Trunk___init__ : Stmt := subAt (top 63) 0
abbrev s_Trunk_version : Stmt := subAt (top 63) 1
abbrev s_Trunk_tree : Stmt := subAt (top 63) 2
abbrev s_Trunk_entry : Stmt := subAt (top 63) 3
abbrev s_Trunk_append : Stmt := subAt (top 63) 4
abbrev s_Trunk__check_room : Stmt := subAt (top 63) 5
abbrev s_Trunk__make : Stmt := subAt (top 63) 6
abbrev s_Trunk__count_event : Stmt := subAt (top 63) 7
abbrev s_Trunk__add : Stmt := subAt (top 63) 8
abbrev s_Trunk_begin : Stmt := subAt (top 63) 9
abbrev s_Trunk__known : Stmt := subAt (top 63) 11
abbrev s_Trunk__opened : Stmt := subAt (top 63) 12
abbrev s_Trunk_standing : Stmt := subAt (top 63) 15
abbrev s_Trunk__refuse : Stmt := subAt (top 63) 16
abbrev s_Trunk__is_barred : Stmt := subAt (top 63) 17
abbrev s_Trunk__passes : Stmt := subAt (top 63) 18
abbrev s_Trunk_submit : Stmt := subAt (top 63) 19
abbrev s_Trunk_state : Stmt := subAt (top 63) 20
abbrev s_Trunk_name : Stmt := subAt (top 63) 21
abbrev s_Trunk_base : Stmt := subAt (top 63) 22
abbrev s_Trunk_refusals : Stmt := subAt (top 63) 23
abbrev s_Trunk_journal : Stmt := subAt (top 63) 24
abbrev s_Trunk_sight : Stmt := subAt (top 63) 25
abbrev s_Trunk_place : Stmt := subAt (top 63) 26
abbrev s_Trunk_is_protected : Stmt := subAt (top 63) 27
abbrev s_Trunk_close : Stmt := subAt (top 63) 13
abbrev s_Trunk_line : Stmt := subAt (top 63) 28
def fa : List He.Fa := [.free "all", .str "LETTERS" "abcdefghijklmnopqrstuvwxyz0123456789", .free "len", .int "NAME_MOST" 8, .glo "is_name", .int "DEPTH_MOST" 3, .glo "is_path", .glo "is_place", .free "ord", .int "PERCENT" 37, .glo "_is_plain", .int "LINE_MOST" 20, .glo "is_line", .int "WORD_MOST" 12, .glo "is_word", .int "LINES_MOST" 12, .glo "is_lines", .glo "is_inside", .free "any", .free "set", .int "FILES_MOST" 20, .glo "_are_files", .glo "QUESTIONS", .glo "is_question", .glo "OutOfRange", .glo "_check", .glo "check_action", .free "range", .free "tuple", .glo "places_of", .free "sorted", .glo "_names", .free "enumerate", .free "list", .glo "_rows", .glo "NONE", .glo "_ask", .glo "_is_blocked", .glo "DONE", .glo "_write", .glo "_move", .glo "_splice", .glo "act", .glo "next_row", .glo "walk", .glo "PASS", .glo "verdict", .glo "run", .glo "first_change", .glo "holds", .glo "lead", .glo "_law_cell", .free "int", .glo "_law_digits", .glo "_law_draw", .free "repr", .glo "_law_alike", .glo "_law_path", .glo "_law_place", .glo "_law_lines", .glo "_law_question", .glo "_law_action", .glo "_law_table", .glo "_law_inside", .glo "_law_barred", .glo "_law_names", .glo "_law_found", .glo "_law_told", .glo "_law_with", .glo "_law_spliced", .glo "_law_act", .glo "_law_files", .glo "_law_run", .glo "_law_new", .glo "_law_leave", .glo "_law_event", .glo "_law_made", .glo "Trunk", .glo "Tree", .glo "_law_made_trunk", .glo "TooManyVersions", .glo "_law_append", .glo "_law_submit", .glo "_law_version", .glo "_law_one", .glo "_law_versions", .glo "_law_stranger_raw", .glo "NoSession", .glo "_law_stranger", .glo "_law_many", .int "PATIENCE_MOST" 9, .int "VERSIONS_MOST" 200, .glo "law", .meth "OutOfRange" "__init__", .meth "Tree" "__init__", .meth "Tree" "files", .meth "Tree" "lines", .meth "Tree" "paths", .meth "Tree" "above", .meth "Tree" "is_folder", .meth "Tree" "with_file", .meth "Tree" "without", .glo "Session", .meth "Session" "__init__", .glo "Line", .meth "Line" "__init__", .meth "Line" "first", .meth "Line" "leave", .meth "Line" "join", .meth "Line" "count", .meth "Trunk" "__init__", .meth "Trunk" "version", .meth "Trunk" "tree", .meth "Trunk" "entry", .meth "Trunk" "append", .exc "TooManyVersions", .meth "Trunk" "_check_room", .meth "Trunk" "_make", .meth "Trunk" "_count_event", .int "SESSIONS_MOST" 6, .glo "TooManySessions", .exc "TooManySessions", .meth "Trunk" "_add", .meth "Trunk" "begin", .exc "NoSession", .meth "Trunk" "_known", .meth "Trunk" "_opened", .meth "Trunk" "standing", .meth "Trunk" "_refuse", .meth "Trunk" "_is_barred", .int "VERDICTS_MOST" 5, .meth "Trunk" "_passes", .glo "WrongPosition", .exc "WrongPosition", .meth "Trunk" "submit", .meth "Trunk" "state", .meth "Trunk" "name", .meth "Trunk" "base", .meth "Trunk" "refusals", .meth "Trunk" "journal", .meth "Trunk" "sight", .meth "Trunk" "place", .meth "Trunk" "is_protected", .meth "Trunk" "close", .meth "Trunk" "line", .noat "OutOfRange" "name", .cls "Tree", .mkr "Tree", .noat "Tree" "_files", .cls "Session", .mkr "Session", .noat "Session" "name", .noat "Session" "base", .noat "Session" "journal", .noat "Session" "refusals", .noat "Session" "state", .cls "Line", .mkr "Line", .noat "Line" "sessions", .noat "Line" "is_protected", .noat "Line" "_events", .cls "Trunk", .mkr "Trunk", .noat "Trunk" "_patience", .noat "Trunk" "_allowance", .noat "Trunk" "_trees", .noat "Trunk" "_entries", .noat "Trunk" "_sessions", .noat "Trunk" "_line", .noat "Trunk" "_checks", .noat "Trunk" "_verdicts", .noat "Trunk" "_runs", .exm "OutOfRange" "OutOfRange" true, .exm "TooManyVersions" "OutOfRange" false, .exm "TooManyVersions" "TooManyVersions" true, .exm "NoSession" "NoSession" true]
def fn : List He.DefD := [dOf "is_name" s_is_name, dOf "is_path" s_is_path, dOf "is_place" s_is_place, dOf "_is_plain" s__is_plain, dOf "is_line" s_is_line, dOf "is_word" s_is_word, dOf "is_lines" s_is_lines, dOf "is_inside" s_is_inside, dOf "_are_files" s__are_files, dOf "is_question" s_is_question, dOf "_check" s__check, dOf "check_action" s_check_action, dOf "places_of" s_places_of, dOf "_names" s__names, dOf "_rows" s__rows, dOf "_ask" s__ask, dOf "_is_blocked" s__is_blocked, dOf "_write" s__write, dOf "_move" s__move, dOf "_splice" s__splice, dOf "act" s_act, dOf "next_row" s_next_row, dOf "walk" s_walk, dOf "verdict" s_verdict, dOf "run" s_run, dOf "first_change" s_first_change, dOf "holds" s_holds, dOf "lead" s_lead, dOf "_law_cell" s__law_cell, dOf "_law_digits" s__law_digits, dOf "_law_draw" s__law_draw, dOf "_law_alike" s__law_alike, dOf "_law_path" s__law_path, dOf "_law_place" s__law_place, dOf "_law_lines" s__law_lines, dOf "_law_question" s__law_question, dOf "_law_action" s__law_action, dOf "_law_table" s__law_table, dOf "_law_inside" s__law_inside, dOf "_law_barred" s__law_barred, dOf "_law_names" s__law_names, dOf "_law_found" s__law_found, dOf "_law_told" s__law_told, dOf "_law_with" s__law_with, dOf "_law_spliced" s__law_spliced, dOf "_law_act" s__law_act, dOf "_law_files" s__law_files, dOf "_law_run" s__law_run, dOf "_law_new" s__law_new, dOf "_law_leave" s__law_leave, dOf "_law_event" s__law_event, dOf "_law_made" s__law_made, dOf "_law_made_trunk" s__law_made_trunk, dOf "_law_append" s__law_append, dOf "_law_submit" s__law_submit, dOf "_law_version" s__law_version, dOf "_law_one" s__law_one, dOf "_law_versions" s__law_versions, dOf "_law_stranger_raw" s__law_stranger_raw, dOf "_law_stranger" s__law_stranger, dOf "_law_many" s__law_many, dOf "law" s_law, dOfM "OutOfRange" "__init__" "OutOfRange.__init__" s_OutOfRange___init__, dOfMd "Tree" "__init__" "Tree.__init__" s_Tree___init__ [.adr (He.dflAt ("Tree", some "__init__") 0)], dOfM "Tree" "files" "Tree.files" s_Tree_files, dOfM "Tree" "lines" "Tree.lines" s_Tree_lines, dOfM "Tree" "paths" "Tree.paths" s_Tree_paths, dOfM "Tree" "above" "Tree.above" s_Tree_above, dOfM "Tree" "is_folder" "Tree.is_folder" s_Tree_is_folder, dOfM "Tree" "with_file" "Tree.with_file" s_Tree_with_file, dOfM "Tree" "without" "Tree.without" s_Tree_without, dOfM "Session" "__init__" "Session.__init__" s_Session___init__, dOfM "Line" "__init__" "Line.__init__" s_Line___init__, dOfM "Line" "first" "Line.first" s_Line_first, dOfM "Line" "leave" "Line.leave" s_Line_leave, dOfM "Line" "join" "Line.join" s_Line_join, dOfM "Line" "count" "Line.count" s_Line_count, dOfM "Trunk" "__init__" "Trunk.__init__" s_Trunk___init__, dOfM "Trunk" "version" "Trunk.version" s_Trunk_version, dOfM "Trunk" "tree" "Trunk.tree" s_Trunk_tree, dOfM "Trunk" "entry" "Trunk.entry" s_Trunk_entry, dOfM "Trunk" "append" "Trunk.append" s_Trunk_append, dOfM "Trunk" "_check_room" "Trunk._check_room" s_Trunk__check_room, dOfM "Trunk" "_make" "Trunk._make" s_Trunk__make, dOfM "Trunk" "_count_event" "Trunk._count_event" s_Trunk__count_event, dOfM "Trunk" "_add" "Trunk._add" s_Trunk__add, dOfM "Trunk" "begin" "Trunk.begin" s_Trunk_begin, dOfM "Trunk" "_known" "Trunk._known" s_Trunk__known, dOfM "Trunk" "_opened" "Trunk._opened" s_Trunk__opened, dOfM "Trunk" "standing" "Trunk.standing" s_Trunk_standing, dOfM "Trunk" "_refuse" "Trunk._refuse" s_Trunk__refuse, dOfM "Trunk" "_is_barred" "Trunk._is_barred" s_Trunk__is_barred, dOfM "Trunk" "_passes" "Trunk._passes" s_Trunk__passes, dOfM "Trunk" "submit" "Trunk.submit" s_Trunk_submit, dOfM "Trunk" "state" "Trunk.state" s_Trunk_state, dOfM "Trunk" "name" "Trunk.name" s_Trunk_name, dOfM "Trunk" "base" "Trunk.base" s_Trunk_base, dOfM "Trunk" "refusals" "Trunk.refusals" s_Trunk_refusals, dOfM "Trunk" "journal" "Trunk.journal" s_Trunk_journal, dOfM "Trunk" "sight" "Trunk.sight" s_Trunk_sight, dOfM "Trunk" "place" "Trunk.place" s_Trunk_place, dOfM "Trunk" "is_protected" "Trunk.is_protected" s_Trunk_is_protected, dOfM "Trunk" "close" "Trunk.close" s_Trunk_close, dOfM "Trunk" "line" "Trunk.line" s_Trunk_line]
def fx : List Fx := [.cst "DONE" (.tuple [(.str "done")]), .cst "NONE" (.tuple [(.str "none")]), .cst "QUESTIONS" (.tuple [(.str "read"), (.str "kind"), (.str "list"), (.str "find"), (.str "count")]), .cst "PASS" (.tuple [(.str "pass")]), .cstA (He.dflAt ("Tree", some "__init__") 0) (.tuple []), .oex "OutOfRange", .xf "OutOfRange"]
abbrev TX (K : PySem.W.Frag) (mg : Str → Option Value) : Prop := Tx fa fn fx K mg
end K36
namespace K36
open PySem L2 Sa
abbrev R : PySem.W.OpenRow := PySem.W.OpenLaw.row PySem.Challenge.rw_sameanswers_k36_versions_of_a_trunk
abbrev qv : Program := PySem.W.view R.prog [98]
/-! the hook over a list of addresses: what is told is looked up there -/
def asL : List Addr := PySem.mainGlobals :: List.range 1300
theorem saysL_of {ex : PySem.W.Frag → Bool} {w : World} {h : Heap} (e : (He.obsT fa fn [] (He.frT h.get? asL), ex (He.frT h.get? asL)) = (He.valT fn [] w, true)) : He.SaysX fa fn [] [] ex w h (He.frT h.get? asL) :=
  ⟨congrArg (fun z : He.AlX => z.1) e, congrArg (fun z : He.AlX => z.2) e, (fun _ hp => nomatch hp), (fun _ hp => nomatch hp), (fun _ hp => nomatch hp)⟩
def hk : PySem.W.Hook where
  α := He.AlX
  obs := fun s => (He.obsT fa fn [] (He.frT s.heap.get? asL), exs fx (He.frT s.heap.get? asL))
  val := fun w => (He.valT fn [] w, true)
  says := fun w h => ∃ K : PySem.W.Frag, K.In h ∧ He.SaysX fa fn [] [] (exs fx) w h K
  of := fun _ _ e => ⟨_, He.frT_in, saysL_of e⟩
  keeps := fun _ _ _ ⟨K, hK, c⟩ k => ⟨K, PySem.W.Frag.In.keeps hK k, ⟨c.t, c.more, c.hd, c.out, fun p hp => k _ _ (c.empty p hp)⟩⟩
def ob (s : PySem.W.SharedT) : He.AlX := (He.obsT fa fn [] (He.frT (HandSHeadRun.getT s) asL), exs fx (He.frT (HandSHeadRun.getT s) asL))
theorem ob_eq (s : PySem.W.SharedT) : ob s = hk.obs s.abs := by
  have e : HandSHeadRun.getT s = s.abs.heap.get? := funext (HandSHeadRun.getT_eq s)
  unfold ob
  rw [e]
  rfl
def loose0 : List PySem.Str := ["_wall", "TrunkError", "OutOfRange", "NoSession", "TooManySessions", "WrongPosition", "TooManyVersions", "NoCheck", "NAME_MOST", "DEPTH_MOST", "LINE_MOST", "LINES_MOST", "WORD_MOST", "LETTERS", "PERCENT", "is_name", "is_path", "is_place", "_is_plain", "is_line", "is_word", "is_lines", "is_inside", "FILES_MOST", "_are_files", "Tree", "QUESTIONS", "NONE", "DONE", "is_question"]
def loose1 : List PySem.Str := ["_check", "check_action", "places_of", "_names", "_rows", "_ask", "_is_blocked", "_write", "_move", "_splice", "act", "next_row", "walk", "PASS", "verdict", "run", "first_change", "holds", "lead", "SESSIONS_MOST", "VERSIONS_MOST", "VERDICTS_MOST", "PATIENCE_MOST", "Session", "Line", "Trunk", "_law_cell", "_law_digits", "_law_draw", "_law_alike"]
def loose2 : List PySem.Str := ["_law_path", "_law_place", "_law_lines", "_law_question", "_law_action", "_law_table", "_law_inside", "_law_barred", "_law_names", "_law_found", "_law_told", "_law_with", "_law_spliced", "_law_act", "_law_files", "_law_run", "_law_new", "_law_leave", "_law_event", "_law_made", "_law_made_trunk", "_law_append", "_law_submit", "_law_version", "_law_one", "_law_versions", "_law_stranger_raw", "_law_stranger", "_law_many"]
def loose : List PySem.Str := loose0 ++ loose1 ++ loose2
theorem map3 {α β γ δ : Type _} {o : Option α} {f : α → β} {g : α → γ} {h : α → δ} {a : β} {b : γ} {c : δ} (e1 : o.map f = some a) (e2 : o.map g = some b) (e3 : o.map h = some c) : o.map (fun s => (f s, g s, h s)) = some (a, b, c) := by
  cases o with
  | none => cases e1
  | some x => rw [Option.some.inj e1.symm, Option.some.inj e2.symm, Option.some.inj e3.symm]; rfl
section
open PySem PySem.W PySem.Calls PyProof.Rows
noncomputable def ends (w : World) (os : OsState) : Option SharedT := HandSHeadRun.endF (HandSHeadRun.stepQ (HandSHeadRun.denQ HandSHeadRun.tabQ) R.prog w) 8000 R.prog w os
noncomputable def lookF (w : World) (s : SharedT) : Bool := HandSHeadRun.looksF R.prog (boot_heap w.params) s.abs
noncomputable def seeF (s : SharedT) := HandSHeadRun.seenQ qv loose (importedModules R.prog.main.body) (fun s => xlAt qv [] s && recOk R.toRowW.records s) s.abs
theorem run1 (w : World) (os : OsState) : (ends w os).map (lookF w) = some true := by kernel_rfl
theorem run2 (w : World) (os : OsState) : (ends w os).map seeF = some (openGood qv loose) := by kernel_rfl
theorem run3 (w : World) (os : OsState) : (ends w os).map ob = some (hk.val w) := by kernel_rfl
theorem run (w : World) : HandSHeadRun.RunEq R qv hk ob 8000 loose w := by
  intro os
  have := map3 (run1 w os) (run2 w os) (run3 w os)
  unfold ends lookF seeF at this
  exact this
end
def spLawE (K : PySem.W.Frag) : Sp := fun vs H Q _ => ∃ (a : Addr) (ns : List Int), vs = [.ref a] ∧ SqL K H a (ns.map V.int) ∧ ∀ H', Q (.bl true) H'
end K36
--FIN
section
open PySem PySem.W PySem.Calls PyProof.Rows
set_option maxRecDepth 100000 in
set_option maxHeartbeats 0 in
theorem K36.fin (E : ∀ {P : PySem.Program} {w : PySem.World} {K : PySem.W.Frag} {h : PySem.Heap} {mg : PySem.Str → Option PySem.Value} {f : PySem.Addr}, K.In h → h.Ns PySem.mainGlobals mg → mg "law" = some (.ref f) → He.SaysD K36.fa K36.fn K → Sa.exs K36.fx K = true →
    ∃ fd : PySem.FuncData, (∀ (s : PySem.Shared) (v : PySem.Value), PySem.BindsTo s fd ⟨[v], []⟩ [("_law_script", v)]) ∧ ∀ base : PySem.Heap, K.In base → base.Ns PySem.mainGlobals mg → Sa.FnG P w K mg base L2.CX0 17 f fd ["_law_script"] (K36.spLawE K)) : PySem.Challenge.rw_sameanswers_k36_versions_of_a_trunk.Holds := by
  w_on; o_law
  refine HandSHeadRun.head_any (r := OpenLaw.row PySem.Challenge.rw_sameanswers_k36_versions_of_a_trunk) (q := K36.qv) (H := K36.hk) (ob := K36.ob) (M := 8000) (loose := K36.loose) (d := HandSHeadRun.topDef (OpenLaw.row PySem.Challenge.rw_sameanswers_k36_versions_of_a_trunk).prog 98) (kwd := []) K36.ob_eq
    (by kernel_rfl) (fun s => by kernel_rfl) K36.run (by kernel_rfl) (by kernel_rfl) (by kernel_rfl) (by rfl) (by first | assumption | decide +kernel) (by decide +kernel) ⟨rfl, rfl, rfl, rfl, rfl, by decide +kernel⟩ ?hw ?hc
  case hw => w_witness2
  case hc =>
    refine Sa.law_end (l := PySem.Challenge.rw_sameanswers_k36_versions_of_a_trunk) (n := 63) (k := 17) (x := "_law_script") rfl (by decide) (by kernel_rfl) ⟨rfl, by decide, by decide⟩ ?F
    intro w mg fa h Y G hmg0
    obtain ⟨K, KX, c⟩ := Y
    have cd := c.t.d
    have cx := c.more
    have hmg : mg ("law" : PySem.Str) = some (.ref fa) := by
      have e : (HandSHeadRun.topDef (OpenLaw.row PySem.Challenge.rw_sameanswers_k36_versions_of_a_trunk).prog 98).name = ("law" : PySem.Str) := by kernel_rfl
      rw [← e]
      exact hmg0
    obtain ⟨fd, hb, hF⟩ := E (P := (PySem.Challenge.rw_sameanswers_k36_versions_of_a_trunk).prog) (w := w) KX G hmg cd cx
    exact ⟨K, fd, K36.spLawE K, KX, hb, fun H a ns hS => ⟨a, ns, rfl, hS, fun _ => rfl⟩, hF⟩
end
--ENDFIN

namespace K36
open PySem L2 Sa
section
variable {P : Program} {w : World} {K : PySem.W.Frag} {mg : Str → Option Value} {base : Heap}
theorem sc__law_draw : FnScope ["_law_box", "_law_many_here", "_law_at"] ["_law_box", "_law_many_here"] (defScope s__law_draw) := ⟨rfl, rfl, rfl, by decide +kernel, rfl, by decide +kernel, by decide +kernel⟩
theorem bn__law_draw : BindN "_law_draw" s__law_draw ["_law_box", "_law_many_here"] := fun _ _ _ _ _ _ us hl => match us, hl with | [_, _], _ => rfl
def spDraw : Sp := fun vs H Q _ => ∃ (b d : Addr) (many : Int), vs = [.ref b, .int many] ∧ Bx H b d ∧ 0 < many ∧ ∀ (i : Int) (H' : Hp), 0 ≤ i → i < many → Kp [b] H H' → Bx H' b d → Q (.int i) H'
theorem b__law_draw (T : TX K mg) : Body P w K mg base "_law_draw" s__law_draw ["_law_box", "_law_many_here", "_law_at"] 1 spDraw := by
  intro cdv A outer s H vs Q E h X hr
  obtain ⟨b, d, many, rfl, B, hm, k⟩ := h
  obtain ⟨at_, ds, h1, h2, h3⟩ := B.ex
  refine ⟨_, (pss_cons (ps_set (i := 2) sc__law_draw.nd rfl (Or.inl rfl) (pe_ix (ix_U (K := K)) (pv 0) pe_int (fun _ _ => rfl))) (pss_cons (ps_asg (pe_op (op_addU (K := K)) (pv 2) pe_int) (pg_sub (pv 0) pe_int set_list)) (pss_cons (ps_if (pt_cmpR op_ltU (pv 2) (pe_callB (cr_len (K := K)) rfl (T.free 2) PySem.boot_len (pa_cons (pe_ix (ix_U (K := K)) (pv 0) pe_int (fun _ _ => rfl)) pa_nil)) (nomark _)) (pss_one (ps_ret (pe_op op_modU (pe_callTy cr_int rfl (T.free 52) (by decide +kernel) (pa_cons (pe_ix (ix_U (K := K)) (pe_ix (ix_U (K := K)) (pv 0) pe_int (fun _ _ => rfl)) (pv 2) (fun _ _ => rfl)) pa_nil)) (pv 1)))) pss_nil) (pss_one (ps_ret (pe_op op_modU (pe_callTy cr_int rfl (T.free 52) (by decide +kernel) (pa_cons (pe_op (op_addU (K := K)) (pe_op (op_mulU (K := K)) (pv 2) pe_int) pe_int) pa_nil)) (pv 1))))))), ?_⟩
  have hne := B.ne
  walk_at "st"
  have fin : ∀ z : Int, Q (.int (z % many)) (upd H b (.lst [.ref d, .int (at_ + 1)])) := fun z => by
    refine k _ _ (Int.emod_nonneg _ (by omega)) (Int.emod_lt_of_pos _ hm) (Kp.mut (by simp)) ⟨at_ + 1, ds, upd_same, upd_other hne h2, by omega⟩
  refine c_ite (fun hlt => ?_) (fun hlt => ?_)
  · walk_at "st"
    rw [List.length_map] at hlt
    refine c_ixL (by walk_at "lk") (atI_ints h3 hlt) ?_
    walk_at "st"
    exact fin _
  · walk_at "st"
    exact fin _
theorem D__law_draw (T : TX K mg) : DefAt P w K mg base CX0 "_law_draw" 2 ["_law_box", "_law_many_here"] spDraw :=
  def_of T 30 54 sc__law_draw bn__law_draw (fun vs H Q E h => by obtain ⟨b, d, many, rfl, _⟩ := h; rfl) (b__law_draw T)

theorem sc__law_cell : FnScope ["_law_script", "_law_k"] ["_law_script", "_law_k"] (defScope s__law_cell) := ⟨rfl, rfl, rfl, by decide +kernel, rfl, by decide +kernel, by decide +kernel⟩
theorem bn__law_cell : BindN "_law_cell" s__law_cell ["_law_script", "_law_k"] := fun _ _ _ _ _ _ us hl => match us, hl with | [_, _], _ => rfl
def spCell (K : PySem.W.Frag) : Sp := fun vs H Q _ => ∃ (a : Addr) (ns : List Int) (k : Int), vs = [.ref a, .int k] ∧ SqL K H a (ns.map V.int) ∧ 0 ≤ k ∧ ∀ n : Int, Q (.int n) H
theorem b__law_cell (T : TX K mg) : Body P w K mg base "_law_cell" s__law_cell ["_law_script", "_law_k"] 1 (spCell K) := by
  intro cdv A outer s H vs Q E h X hr
  obtain ⟨a, ns, k, rfl, hs, h0, q⟩ := h
  refine ⟨_, (pss_cons (ps_if (pt_cmpR op_ltU (pv 1) (pe_callB (cr_len (K := K)) rfl (T.free 2) PySem.boot_len (pa_cons (pv 0) pa_nil)) (nomark _)) (pss_one (ps_ret (pe_ix (ix_U (K := K)) (pv 0) (pv 1) (fun _ _ => rfl)))) pss_nil) (pss_one (ps_ret pe_int))), ?_⟩
  walk_at "st"
  refine c_ite (fun hlt => ?_) (fun hlt => ?_)
  · walk_at "st"
    rw [List.length_map] at hlt
    refine c_ixL hs (atI_ints h0 hlt) ?_
    exact q _
  · walk_at "st"
    exact q _
theorem D__law_cell (T : TX K mg) : DefAt P w K mg base CX0 "_law_cell" 2 ["_law_script", "_law_k"] (spCell K) :=
  def_of T 28 51 sc__law_cell bn__law_cell (fun vs H Q E h => by obtain ⟨b, d, many, rfl, _⟩ := h; rfl) (b__law_cell T)
theorem sc__law_digits : FnScope ["_law_script", "_law_first", "_law_last", "_law_digits_here", "_law_k", "_law_cell_here", "_law_turn", "_law_seed"] ["_law_script", "_law_first", "_law_last"] (defScope s__law_digits) := ⟨rfl, rfl, rfl, by decide +kernel, rfl, by decide +kernel, by decide +kernel⟩
theorem bn__law_digits : BindN "_law_digits" s__law_digits ["_law_script", "_law_first", "_law_last"] := fun _ _ _ _ _ _ us hl => match us, hl with | [_, _, _], _ => rfl
def spDigits (K : PySem.W.Frag) : Sp := fun vs H Q _ => ∃ (a : Addr) (ns : List Int), vs = [.ref a, .int 0, .int 63] ∧ SqL K H a (ns.map V.int) ∧ ∀ (p : Addr) (ds : List Int), H p = none → Q (.ref p) (upd H p (.lst (ds.map V.int)))
theorem b__law_digits (T : TX K mg) : Body P w K mg base "_law_digits" s__law_digits ["_law_script", "_law_first", "_law_last", "_law_digits_here", "_law_k", "_law_cell_here", "_law_turn", "_law_seed"] 2 (spDigits K) := by
  intro cdv A outer s H vs Q E h X hr
  obtain ⟨a, ns, rfl, hs, q⟩ := h
  have D__law_cell : DefAt P w K mg base CX0 "_law_cell" 2 ["_law_script", "_law_k"] (spCell K) := D__law_cell T
  refine ⟨_, (pss_cons (ps_set (i := 3) sc__law_digits.nd rfl (Or.inl rfl) (pe_lst pa_nil)) (pss_cons (ps_for PassesOwn.never rfl (pi_range2 rfl (T.free 27) (pa_cons (pv 1) (pa_cons (pv 2) pa_nil))) (pg_name (i := 4) sc__law_digits.nd rfl (Or.inl rfl)) (pss_cons (ps_set (i := 5) sc__law_digits.nd rfl (Or.inl rfl) (pe_callA D__law_cell hr pass0 (pa_cons (pv 0) (pa_cons (pv 4) pa_nil)))) (Evl.pss_cut (ps_if (pt_cmpR op_ltU (pv 5) pe_int (nomark _)) (pss_one (ps_set (i := 5) sc__law_digits.nd rfl (Or.inl rfl) (pe_op op_subU pe_int (pe_op (op_mulU (K := K)) pe_int (pv 5))))) pss_nil) (pss_one (ps_if (pt_cmpR op_geU (pv 5) pe_int (nomark _)) (pss_one (ps_for PassesOwn.never rfl (pi_range1 rfl (T.free 27) (pa_cons pe_int pa_nil)) (pg_name (i := 6) sc__law_digits.nd rfl (Or.inl rfl)) (pss_one (ps_if (pt_cmpR op_gtU (pv 5) pe_int (nomark _)) (pss_cons (ps_expr (pe_appendU (K := K) (pv 3) (pe_op op_modU (pe_callTy cr_int rfl (T.free 52) (by decide +kernel) (pa_cons (pv 5) pa_nil)) pe_int))) (pss_one (ps_set (i := 5) sc__law_digits.nd rfl (Or.inl rfl) (pe_op op_divU (pv 5) pe_int)))) pss_nil)))) (pss_cons (ps_set (i := 7) sc__law_digits.nd rfl (Or.inl rfl) (pe_op op_modU (pe_callTy cr_int rfl (T.free 52) (by decide +kernel) (pa_cons (pe_op (op_addU (K := K)) (pe_op (op_addU (K := K)) (pe_op (op_mulU (K := K)) (pv 5) pe_int) (pe_op (op_mulU (K := K)) (pv 4) pe_int)) pe_int) pa_nil)) pe_int)) (pss_one (ps_for PassesOwn.never rfl (pi_range1 rfl (T.free 27) (pa_cons pe_int pa_nil)) (pg_name (i := 6) sc__law_digits.nd rfl (Or.inl rfl)) (pss_cons (ps_set (i := 7) sc__law_digits.nd rfl (Or.inl rfl) (pe_op op_modU (pe_callTy cr_int rfl (T.free 52) (by decide +kernel) (pa_cons (pe_op (op_addU (K := K)) (pe_op (op_addU (K := K)) (pe_op (op_mulU (K := K)) (pv 7) pe_int) (pe_op (op_mulU (K := K)) pe_int (pv 6))) pe_int) pa_nil)) pe_int)) (pss_one (ps_expr (pe_appendU (K := K) (pv 3) (pe_op op_modU (pe_callTy cr_int rfl (T.free 52) (by decide +kernel) (pa_cons (pe_op op_divU (pv 7) pe_int) pa_nil)) pe_int))))))))))))) (pss_one (ps_ret (pv 3))))), ?_⟩
  walk_at "st"
  walk_at "nw"
  rintro p _ ⟨hp, rfl⟩
  walk_at "st"
  refine forR (fun i σ H' => ∃ (ds : List Int) (v4 v5 v6 v7 : Option V), σ = [some (.ref a), some (.int 0), some (.int 63), some (.ref p), v4, v5, v6, v7] ∧ H' = upd H p (.lst (ds.map V.int)) ∧ ds.length ≤ 60 * i)
    ⟨[], _, _, _, _, rfl, rfl, Nat.le_refl _⟩ ?_ ?_
  · rintro i σ _ hi ⟨ds, v4, v5, v6, v7, rfl, rfl, hl⟩
    have hi : i < 63 := hi
    walk_at "st"
    refine ⟨a, ns, _, rfl, by walk_at "lk", by omega, fun n => ?_⟩
    walk_at "st"
    refine c_cut (fun σ' H' => ∃ m : Int, σ' = [some (.ref a), some (.int 0), some (.int 63), some (.ref p), some (.int (0 + (i : Int))), some (.int m), v6, v7] ∧ H' = upd H p (.lst (ds.map V.int))) ?_ ?_
    · walk_at "st"
      refine c_ite (fun hlt => ?_) (fun hlt => ?_)
      · walk_at "st"
        exact ⟨_, rfl, rfl⟩
      · walk_at "st"
        exact ⟨_, rfl, rfl⟩
    · rintro _ _ ⟨m, rfl, rfl⟩
      walk_at "st"
      refine c_ite (fun hlt => ?_) (fun hlt => ?_)
      · walk_at "st"
        refine forR (fun j σ H' => ∃ (ds' : List Int) (v6 : Option V) (m : Int), σ = [some (.ref a), some (.int 0), some (.int 63), some (.ref p), some (.int (0 + (i : Int))), some (.int m), v6, v7] ∧ H' = upd H p (.lst (ds'.map V.int)) ∧ ds'.length ≤ ds.length + j)
          ⟨ds, _, _, rfl, rfl, Nat.le_refl _⟩ ?_ ?_
        · rintro j σ _ hj ⟨ds', v6, m, rfl, rfl, hl'⟩
          have hj : j < 60 := hj
          walk_at "st"
          refine c_ite (fun hlt => ?_) (fun hlt => ?_)
          · walk_at "st"
            refine ⟨ds' ++ [m % 1000], _, _, rfl, by rw [upd_upd, map_snocI], by rw [List.length_append, List.length_singleton]; omega⟩
          · walk_at "st"
            exact ⟨ds', _, _, rfl, rfl, by omega⟩
        · rintro σ _ ⟨ds', v6, m, rfl, rfl, hl'⟩
          have hl' : ds'.length ≤ ds.length + 60 := hl'
          walk_at "st"
          exact ⟨ds', _, _, _, _, rfl, rfl, by omega⟩
      · walk_at "st"
        refine forR (fun j σ H' => ∃ (ds' : List Int) (v6 : Option V) (m z : Int), σ = [some (.ref a), some (.int 0), some (.int 63), some (.ref p), some (.int (0 + (i : Int))), some (.int m), v6, some (.int z)] ∧ H' = upd H p (.lst (ds'.map V.int)) ∧ ds'.length ≤ ds.length + j)
          ⟨ds, _, _, _, rfl, rfl, Nat.le_refl _⟩ ?_ ?_
        · rintro j σ _ hj ⟨ds', v6, m, z, rfl, rfl, hl'⟩
          have hj : j < 12 := hj
          walk_at "st"
          refine ⟨ds' ++ [_], _, _, _, rfl, by rw [upd_upd, map_snocI], by rw [List.length_append, List.length_singleton]; omega⟩
        · rintro σ _ ⟨ds', v6, m, z, rfl, rfl, hl'⟩
          have hl' : ds'.length ≤ ds.length + 12 := hl'
          walk_at "st"
          exact ⟨ds', _, _, _, _, rfl, rfl, by omega⟩
  · rintro σ _ ⟨ds, v4, v5, v6, v7, rfl, rfl, hl⟩
    walk_at "st"
    exact q p ds hp
theorem D__law_digits (T : TX K mg) : DefAt P w K mg base CX0 "_law_digits" 3 ["_law_script", "_law_first", "_law_last"] (spDigits K) :=
  def_of T 29 53 sc__law_digits bn__law_digits (fun vs H Q E h => by obtain ⟨b, d, rfl, _⟩ := h; rfl) (b__law_digits T)
end
end K36



namespace K36
open PySem L2 Sa
/-! names, paths, lines -/
def isNameS (z : Str) : Bool := decide (1 ≤ z.length) && decide (z.length ≤ 8) && z.cps.toList.all fun c => decide (c ∈ (PySem.Str.ofString "abcdefghijklmnopqrstuvwxyz0123456789").cps.toList)
def isPathS (z : Str) : Bool := decide ((Txt.split z (PySem.Str.ofString "/")).length ≤ 3) && (Txt.split z (PySem.Str.ofString "/")).all isNameS
def isPlaceS (z : Str) : Bool := decide (z = PySem.Str.ofString "") || isPathS z
def plainC (c : Nat) : Bool := decide (32 ≤ c) && decide (c ≤ 126) && !decide (c = 34) && !decide (c = 37)
def isPlainS (z : Str) : Bool := z.cps.toList.all plainC
def isLineS (z : Str) : Bool := decide (z.length ≤ 20) && isPlainS z
def isWordS (z : Str) : Bool := decide (1 ≤ z.length) && decide (z.length ≤ 12) && isPlainS z
def isLinesS (ys : List Str) : Bool := decide (ys.length ≤ 12) && ys.all isLineS
def isInsideS (x y : Str) : Bool := decide (y = PySem.Str.ofString "") || Txt.startswith x (y ++ PySem.Str.ofString "/")
/-- a question to one text -/
def spStrB (f : Str → Bool) : Sp := fun vs H Q _ => ∃ z : Str, vs = [.str z] ∧ z.length ≤ 100000 ∧ ∀ H', Kp [] H H' → Q (.bl (f z)) H'
theorem spStrB_len (f : Str → Bool) : ∀ vs H Q E, spStrB f vs H Q E → vs.length = 1 := fun vs H Q E h => by obtain ⟨z, rfl, _⟩ := h; rfl
theorem split_small {z y : Str} (h : z.length ≤ 100000) (hy : 0 < y.length) : (Txt.split z y).length ≤ 100001 := by have := split_many (x := z) y hy; omega
theorem all_bl {α : Type} (ys : List α) (f : α → Bool) : (ys.map fun y => V.bl (f y)) = (ys.map f).map V.bl := by simp [Function.comp_def]
theorem all_id {α : Type} (ys : List α) (f : α → Bool) : (ys.map f).all id = ys.all f := by simp [List.all_map, Function.comp_def]
theorem fil_true {α : Type} (ys : List α) : ys.filter (fun _ => true) = ys := by simp
theorem join_ne_nil {z y : Str} : (Txt.split z y) ≠ [] ∨ z = PySem.Str.ofString "" := by
  by_cases h : Txt.split z y = []
  · right
    have e := StrLaws.join_split z y
    rw [h] at e
    rw [← e]
    rfl
  · exact .inl h
section
variable {P : Program} {w : World} {K : PySem.W.Frag} {mg : Str → Option Value} {base : Heap}
theorem sc_is_name : FnScope ["text", "sign"] ["text"] (defScope s_is_name) := ⟨rfl, rfl, rfl, by decide +kernel, rfl, by decide +kernel, by decide +kernel⟩
theorem bn_is_name : BindN "is_name" s_is_name ["text"] := fun _ _ _ _ _ _ us hl => match us, hl with | [_], _ => rfl
theorem b_is_name (T : TX K mg) : Body P w K mg base "is_name" s_is_name ["text", "sign"] 1 (spStrB isNameS) := by
  intro cdv A outer s H vs Q E h X hr
  obtain ⟨z, rfl, hz, q⟩ := h
  refine ⟨_, (pss_one (ps_ret (pe_and (pe_chain op_leU op_leU pe_int (pe_callB (cr_len (K := K)) rfl (T.free 2) PySem.boot_len (pa_cons (pv 0) pa_nil)) (pe_gInt (T.int 3))) (pe_one (pe_callB (cr_allU (K := K) rfl) rfl (T.free 0) (by decide +kernel) (pa_cons (pe_lc (own := [("sign", 1)]) rfl sc_is_name.nd (pi_str (pv 0)) (blkOk_by (N := ["text", "sign"]) (sc := defScope s_is_name) (by decide +kernel)) (fun _ _ _ _ _ => (pg_name (i := 1) sc_is_name.nd rfl (Or.inl rfl))) (fun _ _ _ _ _ => pts_nil) (fun _ _ _ _ _ => (pe_cmpR (op_inU (K := K)) (pv 1) (pe_gStr (T.str 1)) rfl))) pa_nil)))))), ?_⟩
  have no : ¬ (1 ≤ z.length ∧ z.length ≤ 8) → Q (.bl false) H := fun h => by
    have e : isNameS z = false := by unfold isNameS; by_cases h1 : 1 ≤ z.length <;> by_cases h2 : z.length ≤ 8 <;> simp [h1, h2] <;> exact absurd ⟨h1, h2⟩ h
    have := q H Kp.refl
    rw [e] at this
    exact this
  walk_at "st"
  refine c_ite (fun h1 => ?_) (fun h1 => ?_)
  · walk_at "st"
    refine c_ite (fun h2 => ?_) (fun h2 => ?_)
    · walk_at "st"
      refine lcS_map (fun c => V.bl (decide (c ∈ (PySem.Str.ofString "abcdefghijklmnopqrstuvwxyz0123456789").cps.toList))) (fun _ => true) (by omega) (fun c H' R S hc e k1 k2 => ?_) (fun Dl H' hD e hacc => ?_)
      · walk_at "st"
        refine ⟨rfl, ?_⟩
        walk_at "st"
        exact k1 rfl _ Kp.refl
      · rw [fil_true, all_bl] at hacc
        refine c_allB (SqL.of hacc) ?_
        rw [all_id]
        have g := q H' e
        have e2 : isNameS z = z.cps.toList.all fun c => decide (c ∈ (PySem.Str.ofString "abcdefghijklmnopqrstuvwxyz0123456789").cps.toList) := by
          unfold isNameS
          rw [decide_eq_true (by omega), decide_eq_true (by omega), Bool.true_and, Bool.true_and]
        rw [e2] at g
        exact g
    · walk_at "st"
      exact no (by omega)
  · walk_at "st"
    exact no (by omega)
theorem D_is_name (T : TX K mg) : DefAt P w K mg base CX0 "is_name" 2 ["text"] (spStrB isNameS) :=
  def_of T 0 4 sc_is_name bn_is_name (spStrB_len _) (b_is_name T)
theorem sc_is_path : FnScope ["text", "names", "name"] ["text"] (defScope s_is_path) := ⟨rfl, rfl, rfl, by decide +kernel, rfl, by decide +kernel, by decide +kernel⟩
theorem bn_is_path : BindN "is_path" s_is_path ["text"] := fun _ _ _ _ _ _ us hl => match us, hl with | [_], _ => rfl
theorem b_is_path (T : TX K mg) : Body P w K mg base "is_path" s_is_path ["text", "names", "name"] 2 (spStrB isPathS) := by
  intro cdv A outer s H vs Q E h X hr
  obtain ⟨z, rfl, hz, q⟩ := h
  have D_is_name : DefAt P w K mg base CX0 "is_name" 2 ["text"] (spStrB isNameS) := D_is_name T
  refine ⟨_, (pss_cons (ps_set (i := 1) sc_is_path.nd rfl (Or.inl rfl) (pe_splitU (pv 0) pe_str)) (pss_one (ps_ret (pe_and (pe_cmpR op_leU (pe_callB (cr_len (K := K)) rfl (T.free 2) PySem.boot_len (pa_cons (pv 1) pa_nil)) (pe_gInt (T.int 5)) (nomark _)) (pe_one (pe_callB (cr_allU (K := K) rfl) rfl (T.free 0) (by decide +kernel) (pa_cons (pe_lc (own := [("name", 2)]) rfl sc_is_path.nd (pi_listU (K := K) (pv 1)) (blkOk_by (N := ["text", "names", "name"]) (sc := defScope s_is_path) (by decide +kernel)) (fun _ _ _ _ _ => (pg_name (i := 2) sc_is_path.nd rfl (Or.inl rfl))) (fun _ _ _ _ _ => pts_nil) (fun _ _ _ _ _ => (pe_callA D_is_name hr pass0 (pa_cons (pv 2) pa_nil)))) pa_nil))))))), ?_⟩
  walk_at "st"
  refine c_split (by decide) (by rw [sizeLine_eq]; omega) fun p H1 N => ?_
  have hs := split_small (z := z) (y := PySem.Str.ofString "/") hz (by decide)
  walk_at "st"
  refine c_ite (fun h1 => ?_) (fun h1 => ?_)
  · walk_at "st"
    rw [List.length_map] at h1
    refine lcL_map (fun y => V.bl (isNameS y)) (fun _ => true) (SqL.of N.at_) (by omega) (fun y H' R S hy e k1 k2 => ?_) (fun Dl H' hD e hacc => ?_)
    · walk_at "st"
      refine ⟨rfl, ?_⟩
      walk_at "st"
      have hl := split_part hy
      exact ⟨y, rfl, by omega, fun H4 e4 => k1 rfl _ e4⟩
    · rw [fil_true, all_bl] at hacc
      refine c_allB (SqL.of hacc) ?_
      rw [all_id]
      have g := q H' (N.kp.trans e)
      unfold isPathS at g
      rw [decide_eq_true (by omega), Bool.true_and] at g
      exact g
  · walk_at "st"
    rw [List.length_map] at h1
    have g := q H1 N.kp
    unfold isPathS at g
    rw [decide_eq_false (by omega), Bool.false_and] at g
    exact g
theorem D_is_path (T : TX K mg) : DefAt P w K mg base CX0 "is_path" 3 ["text"] (spStrB isPathS) :=
  def_of T 1 6 sc_is_path bn_is_path (spStrB_len _) (b_is_path T)
theorem sc_is_place : FnScope ["text"] ["text"] (defScope s_is_place) := ⟨rfl, rfl, rfl, by decide +kernel, rfl, by decide +kernel, by decide +kernel⟩
theorem bn_is_place : BindN "is_place" s_is_place ["text"] := fun _ _ _ _ _ _ us hl => match us, hl with | [_], _ => rfl
theorem b_is_place (T : TX K mg) : Body P w K mg base "is_place" s_is_place ["text"] 3 (spStrB isPlaceS) := by
  intro cdv A outer s H vs Q E h X hr
  obtain ⟨z, rfl, hz, q⟩ := h
  have D_is_path : DefAt P w K mg base CX0 "is_path" 3 ["text"] (spStrB isPathS) := D_is_path T
  refine ⟨_, (pss_one (ps_ret (pe_or (pe_cmpR (op_eqU (K := K) hr.units) (pv 0) pe_str (nomark _)) (pe_one (pe_callA D_is_path hr pass0 (pa_cons (pv 0) pa_nil)))))), ?_⟩
  unfold isPlaceS at q
  walk_at "st"
  refine c_ite (fun h1 => ?_) (fun h1 => ?_)
  · walk_at "st"
    have g := q H Kp.refl
    rw [decide_eq_true h1, Bool.true_or] at g
    exact g
  · walk_at "st"
    refine ⟨z, rfl, hz, fun H4 e4 => ?_⟩
    have g := q H4 e4
    rw [decide_eq_false h1, Bool.false_or] at g
    exact g
theorem D_is_place (T : TX K mg) : DefAt P w K mg base CX0 "is_place" 4 ["text"] (spStrB isPlaceS) :=
  def_of T 2 7 sc_is_place bn_is_place (spStrB_len _) (b_is_place T)
theorem sc__is_plain : FnScope ["text", "sign"] ["text"] (defScope s__is_plain) := ⟨rfl, rfl, rfl, by decide +kernel, rfl, by decide +kernel, by decide +kernel⟩
theorem bn__is_plain : BindN "_is_plain" s__is_plain ["text"] := fun _ _ _ _ _ _ us hl => match us, hl with | [_], _ => rfl
theorem b__is_plain (T : TX K mg) : Body P w K mg base "_is_plain" s__is_plain ["text", "sign"] 1 (spStrB isPlainS) := by
  intro cdv A outer s H vs Q E h X hr
  obtain ⟨z, rfl, hz, q⟩ := h
  refine ⟨_, (pss_cons (ps_for PassesOwn.never rfl (pi_str (pv 0)) (pg_name (i := 1) sc__is_plain.nd rfl (Or.inl rfl)) (pss_one (ps_if (PW.pt (pw_or (pt_not (pt_chain op_leU op_leU pe_str (pv 1) pe_str)) (pw_or (pt_cmpR (op_eqU (K := K) hr.units) (pv 1) pe_str (nomark _)) (pw_or1 (pt_cmpR (op_eqU (K := K) hr.units) (pe_callB cr_ord rfl (T.free 8) (by decide +kernel) (pa_cons (pv 1) pa_nil)) (pe_gInt (T.int 9)) (nomark _)))))) (pss_one (ps_ret pe_bl)) pss_nil))) (pss_one (ps_ret pe_bl))), ?_⟩
  walk_at "st"
  refine forS (fun i σ H' => ∃ v, σ = [some (.str z), v] ∧ H = H' ∧ (z.cps.toList.take i).all plainC = true) ⟨_, rfl, rfl, rfl⟩ ?_ ?_
  · rintro i c σ _ hc ⟨v, rfl, rfl, hg⟩
    have yes : plainC c = true → (z.cps.toList.take (i + 1)).all plainC = true := fun h => by rw [take_succ' hc, List.all_append, hg]; simp [h]
    have no : plainC c = false → Q (.bl false) H := fun h => by
      have e : isPlainS z = false := by
        cases q2 : isPlainS z with
        | false => rfl
        | true => rw [List.all_eq_true.mp q2 c (List.mem_of_getElem? hc)] at h; cases h
      have g := q H Kp.refl
      rw [e] at g
      exact g
    have e1 : PySem.Str.ofString " " = ⟨#[32]⟩ := by decide +kernel
    have e2 : PySem.Str.ofString "~" = ⟨#[126]⟩ := by decide +kernel
    have e3 : PySem.Str.ofString "\"" = ⟨#[34]⟩ := by decide +kernel
    have e4 : (⟨#[c]⟩ : Str) = ⟨#[34]⟩ ↔ c = 34 := ⟨fun h => by injection h with h; simpa using h, fun h => by rw [h]⟩
    rw [e1, e2, e3]
    walk_at "st"
    refine c_leC ?_
    walk_at "st"
    refine c_ite (fun h1 => ?_) (fun h1 => ?_)
    · walk_at "st"
      refine c_leC ?_
      walk_at "st"
      refine c_iteN (fun h2 => ?_) (fun h2 => ?_)
      · walk_at "st"
        exact no (by unfold plainC; rw [decide_eq_false h2, Bool.and_false]; rfl)
      · walk_at "st"
        refine c_ite (fun h3 => ?_) (fun h3 => ?_)
        · walk_at "st"
          exact no (by unfold plainC; rw [decide_eq_true (e4.mp h3)]; simp)
        · walk_at "st"
          have h3' : c ≠ 34 := fun h => h3 (e4.mpr h)
          refine c_ite (fun h4 => ?_) (fun h4 => ?_)
          · walk_at "st"
            exact no (by unfold plainC; rw [decide_eq_true (p := c = 37) (by omega)]; simp)
          · walk_at "st"
            exact ⟨_, rfl, rfl, yes (by unfold plainC; simp [h1, h2, h3']; omega)⟩
    · walk_at "st"
      exact no (by unfold plainC; rw [decide_eq_false h1]; rfl)
  · rintro σ _ ⟨v, rfl, rfl, hg⟩
    walk_at "st"
    rw [List.take_length] at hg
    have g := q H Kp.refl
    rw [show isPlainS z = true from hg] at g
    exact g
theorem D__is_plain (T : TX K mg) : DefAt P w K mg base CX0 "_is_plain" 2 ["text"] (spStrB isPlainS) :=
  def_of T 3 10 sc__is_plain bn__is_plain (spStrB_len _) (b__is_plain T)
theorem sc_is_line : FnScope ["text"] ["text"] (defScope s_is_line) := ⟨rfl, rfl, rfl, by decide +kernel, rfl, by decide +kernel, by decide +kernel⟩
theorem bn_is_line : BindN "is_line" s_is_line ["text"] := fun _ _ _ _ _ _ us hl => match us, hl with | [_], _ => rfl
theorem b_is_line (T : TX K mg) : Body P w K mg base "is_line" s_is_line ["text"] 2 (spStrB isLineS) := by
  intro cdv A outer s H vs Q E h X hr
  obtain ⟨z, rfl, hz, q⟩ := h
  have D__is_plain : DefAt P w K mg base CX0 "_is_plain" 2 ["text"] (spStrB isPlainS) := D__is_plain T
  refine ⟨_, (pss_one (ps_ret (pe_and (pe_cmpR op_leU (pe_callB (cr_len (K := K)) rfl (T.free 2) PySem.boot_len (pa_cons (pv 0) pa_nil)) (pe_gInt (T.int 11)) (nomark _)) (pe_one (pe_callA D__is_plain hr pass0 (pa_cons (pv 0) pa_nil)))))), ?_⟩
  unfold isLineS at q
  walk_at "st"
  refine c_ite (fun h1 => ?_) (fun h1 => ?_)
  · walk_at "st"
    refine ⟨z, rfl, hz, fun H4 e4 => ?_⟩
    have g := q H4 e4
    rw [decide_eq_true (by omega), Bool.true_and] at g
    exact g
  · walk_at "st"
    have g := q H Kp.refl
    rw [decide_eq_false (by omega), Bool.false_and] at g
    exact g
theorem D_is_line (T : TX K mg) : DefAt P w K mg base CX0 "is_line" 3 ["text"] (spStrB isLineS) :=
  def_of T 4 12 sc_is_line bn_is_line (spStrB_len _) (b_is_line T)
theorem sc_is_word : FnScope ["text"] ["text"] (defScope s_is_word) := ⟨rfl, rfl, rfl, by decide +kernel, rfl, by decide +kernel, by decide +kernel⟩
theorem bn_is_word : BindN "is_word" s_is_word ["text"] := fun _ _ _ _ _ _ us hl => match us, hl with | [_], _ => rfl
theorem b_is_word (T : TX K mg) : Body P w K mg base "is_word" s_is_word ["text"] 2 (spStrB isWordS) := by
  intro cdv A outer s H vs Q E h X hr
  obtain ⟨z, rfl, hz, q⟩ := h
  have D__is_plain : DefAt P w K mg base CX0 "_is_plain" 2 ["text"] (spStrB isPlainS) := D__is_plain T
  refine ⟨_, (pss_one (ps_ret (pe_and (pe_chain op_leU op_leU pe_int (pe_callB (cr_len (K := K)) rfl (T.free 2) PySem.boot_len (pa_cons (pv 0) pa_nil)) (pe_gInt (T.int 13))) (pe_one (pe_callA D__is_plain hr pass0 (pa_cons (pv 0) pa_nil)))))), ?_⟩
  unfold isWordS at q
  walk_at "st"
  refine c_ite (fun h1 => ?_) (fun h1 => ?_)
  · walk_at "st"
    refine c_ite (fun h2 => ?_) (fun h2 => ?_)
    · walk_at "st"
      refine ⟨z, rfl, hz, fun H4 e4 => ?_⟩
      have g := q H4 e4
      rw [decide_eq_true (by omega), decide_eq_true (by omega), Bool.true_and, Bool.true_and] at g
      exact g
    · walk_at "st"
      have g := q H Kp.refl
      rw [decide_eq_false (p := z.length ≤ 12) (by omega), Bool.and_false, Bool.false_and] at g
      exact g
  · walk_at "st"
    have g := q H Kp.refl
    rw [decide_eq_false (by omega), Bool.false_and] at g
    exact g
theorem D_is_word (T : TX K mg) : DefAt P w K mg base CX0 "is_word" 3 ["text"] (spStrB isWordS) :=
  def_of T 5 14 sc_is_word bn_is_word (spStrB_len _) (b_is_word T)
theorem sc_is_lines : FnScope ["lines", "line"] ["lines"] (defScope s_is_lines) := ⟨rfl, rfl, rfl, by decide +kernel, rfl, by decide +kernel, by decide +kernel⟩
theorem bn_is_lines : BindN "is_lines" s_is_lines ["lines"] := fun _ _ _ _ _ _ us hl => match us, hl with | [_], _ => rfl
def spLines (K : PySem.W.Frag) : Sp := fun vs H Q _ => ∃ (a : Addr) (ys : List Str), vs = [.ref a] ∧ SqT K H a (ys.map V.str) ∧ ys.length ≤ 1000 ∧ (∀ y ∈ ys, y.length ≤ 100000) ∧ ∀ H', Kp [] H H' → Q (.bl (isLinesS ys)) H'
theorem b_is_lines (T : TX K mg) : Body P w K mg base "is_lines" s_is_lines ["lines", "line"] 3 (spLines K) := by
  intro cdv A outer s H vs Q E h X hr
  obtain ⟨a, ys, rfl, hs, hn, hl, q⟩ := h
  have D_is_line : DefAt P w K mg base CX0 "is_line" 3 ["text"] (spStrB isLineS) := D_is_line T
  refine ⟨_, (pss_one (ps_ret (pe_and (pe_cmpR op_leU (pe_callB (cr_len (K := K)) rfl (T.free 2) PySem.boot_len (pa_cons (pv 0) pa_nil)) (pe_gInt (T.int 15)) (nomark _)) (pe_one (pe_callB (cr_allU (K := K) rfl) rfl (T.free 0) (by decide +kernel) (pa_cons (pe_lc (own := [("line", 1)]) rfl sc_is_lines.nd (pi_tupU (K := K) (pv 0)) (blkOk_by (N := ["lines", "line"]) (sc := defScope s_is_lines) (by decide +kernel)) (fun _ _ _ _ _ => (pg_name (i := 1) sc_is_lines.nd rfl (Or.inl rfl))) (fun _ _ _ _ _ => pts_nil) (fun _ _ _ _ _ => (pe_callA D_is_line hr pass0 (pa_cons (pv 1) pa_nil)))) pa_nil)))))), ?_⟩
  unfold isLinesS at q
  walk_at "st"
  refine c_ite (fun h1 => ?_) (fun h1 => ?_)
  · walk_at "st"
    rw [List.length_map] at h1
    refine lcT_map (fun y => V.bl (isLineS y)) (fun _ => true) hs (by omega) (fun y H' R S hy e k1 k2 => ?_) (fun Dl H' hD e hacc => ?_)
    · walk_at "st"
      refine ⟨rfl, ?_⟩
      walk_at "st"
      exact ⟨y, rfl, hl y hy, fun H4 e4 => k1 rfl _ e4⟩
    · rw [fil_true, all_bl] at hacc
      refine c_allB (SqL.of hacc) ?_
      rw [all_id]
      have g := q H' e
      rw [decide_eq_true (by omega), Bool.true_and] at g
      exact g
  · walk_at "st"
    rw [List.length_map] at h1
    have g := q H Kp.refl
    rw [decide_eq_false (by omega), Bool.false_and] at g
    exact g
theorem D_is_lines (T : TX K mg) : DefAt P w K mg base CX0 "is_lines" 4 ["lines"] (spLines K) :=
  def_of T 6 16 sc_is_lines bn_is_lines (fun vs H Q E h => by obtain ⟨z, ys, rfl, _⟩ := h; rfl) (b_is_lines T)
theorem sc_is_inside : FnScope ["path", "place"] ["path", "place"] (defScope s_is_inside) := ⟨rfl, rfl, rfl, by decide +kernel, rfl, by decide +kernel, by decide +kernel⟩
theorem bn_is_inside : BindN "is_inside" s_is_inside ["path", "place"] := fun _ _ _ _ _ _ us hl => match us, hl with | [_, _], _ => rfl
def spInside : Sp := fun vs H Q _ => ∃ x y : Str, vs = [.str x, .str y] ∧ y.length ≤ 100000 ∧ Q (.bl (isInsideS x y)) H
theorem b_is_inside (T : TX K mg) : Body P w K mg base "is_inside" s_is_inside ["path", "place"] 1 spInside := by
  intro cdv A outer s H vs Q E h X hr
  obtain ⟨x, y, rfl, hz, q⟩ := h
  refine ⟨_, (pss_one (ps_ret (pe_or (pe_cmpR (op_eqU (K := K) hr.units) (pv 1) pe_str (nomark _)) (pe_one (pe_m1 PySem.F.slot_str_startswith PySem.F.type_str_startswith mt_startsU (pv 0) (pe_op (op_addU (K := K)) (pv 1) pe_str)))))), ?_⟩
  unfold isInsideS at q
  walk_at "st"
  refine c_ite (fun h1 => ?_) (fun h1 => ?_)
  · walk_at "st"
    rw [decide_eq_true h1, Bool.true_or] at q
    exact q
  · walk_at "st"
    refine c_addS (by rw [sizeLine_eq]; have : (PySem.Str.ofString "/").length = 1 := by decide
                      omega) ?_
    refine c_starts ?_
    rw [decide_eq_false h1, Bool.false_or] at q
    exact q
theorem D_is_inside (T : TX K mg) : DefAt P w K mg base CX0 "is_inside" 2 ["path", "place"] spInside :=
  def_of T 7 17 sc_is_inside bn_is_inside (fun vs H Q E h => by obtain ⟨z, ys, rfl, _⟩ := h; rfl) (b_is_inside T)
end
end K36



namespace K36
open PySem L2 Sa
section
variable {P : Program} {w : World} {K : PySem.W.Frag} {mg : Str → Option Value} {base : Heap}
theorem sc_OutOfRange___init__ : FnScope ["self", "name"] ["self", "name"] (defScope s_OutOfRange___init__) := ⟨rfl, rfl, rfl, by decide +kernel, rfl, by decide +kernel, by decide +kernel⟩
theorem bn_OutOfRange___init__ : BindM "__init__" "OutOfRange.__init__" s_OutOfRange___init__ ["self", "name"] := fun _ _ _ _ _ _ us hl => match us, hl with | [_, _], _ => rfl
theorem b_oor (T : TX K mg) : BodyM P w K mg base "OutOfRange" "__init__" "OutOfRange.__init__" s_OutOfRange___init__ ["self", "name"] 1 (spInit K (He.ga K "OutOfRange") "name") := by
  intro cdv A outer s H vs Q E h X hr
  obtain ⟨a, v, rfl, ha, q⟩ := h
  refine ⟨_, (pss_one (ps_ost (pv 0) (pv 1))), ?_⟩
  have hc := T.oex 5
  walk_at "st"
  refine c_ost ?_
  walk_at "st"
  refine ⟨a, He.ga K "OutOfRange", rfl, hc, He.noat_ok (T.fact 145), .inl ⟨ha, fun dx h1 h2 => ?_⟩⟩
  exact q dx h1 h2
theorem E_OutOfRange (T : TX K mg) : ErrC P w K mg base "OutOfRange" "name" :=
  ⟨T.glo 24, T.oex 5, T.xfc 6, He.noat_ok (T.fact 145), _,
    meth_of T 62 93 sc_OutOfRange___init__ bn_OutOfRange___init__ (fun vs H Q E h => by obtain ⟨b, d, rfl, _⟩ := h; rfl) (b_oor T)⟩
end
end K36



namespace K36
open PySem L2 Sa
/-- sizes that are no matter -/
structure Sane (fs : List File) : Prop where
  len : fs.length ≤ 500
  row : ∀ f ∈ fs, f.1.length ≤ 1000 ∧ f.2.length ≤ 500 ∧ ∀ y ∈ f.2, y.length ≤ 1000
def pathsOf (fs : List File) : List Str := fs.map Prod.fst
def goodRow (ps : List Str) (f : File) : Bool := isPathS f.1 && isLinesS f.2 && !(ps.any fun o => isInsideS f.1 o)
def goodF (fs : List File) : Bool := decide (fs.length ≤ 20) && !decide ((ded (pathsOf fs)).length < fs.length) && fs.all (goodRow (pathsOf fs))
section
variable {P : Program} {w : World} {K : PySem.W.Frag} {mg : Str → Option Value} {base : Heap}
theorem sc__are_files : FnScope ["files", "path", "paths", "lines", "_", "other"] ["files"] (defScope s__are_files) := ⟨rfl, rfl, rfl, by decide +kernel, rfl, by decide +kernel, by decide +kernel⟩
theorem bn__are_files : BindN "_are_files" s__are_files ["files"] := fun _ _ _ _ _ _ us hl => match us, hl with | [_], _ => rfl
def spAreFiles (K : PySem.W.Frag) : Sp := fun vs H Q _ => ∃ (a : Addr) (fs : List File), vs = [.ref a] ∧ RowsAt K H a fs ∧ Sane fs ∧ ∀ H', Kp [] H H' → Q (.bl (goodF fs)) H'
theorem b__are_files (T : TX K mg) : Body P w K mg base "_are_files" s__are_files ["files", "path", "paths", "lines", "_", "other"] 4 (spAreFiles K) := by
  intro cdv A outer s H vs Q E h X hr
  obtain ⟨a, fs, rfl, ⟨rs, hsq, rfl, hrs⟩, hsane, q⟩ := h
  have D_is_path : DefAt P w K mg base CX0 "is_path" 3 ["text"] (spStrB isPathS) := D_is_path T
  have D_is_lines : DefAt P w K mg base CX0 "is_lines" 4 ["lines"] (spLines K) := D_is_lines T
  have D_is_inside : DefAt P w K mg base CX0 "is_inside" 2 ["path", "place"] spInside := D_is_inside T
  refine ⟨_, (pss_cons (ps_setLc (i := 2) (own := [("path", 1), ("_", 4)]) rfl sc__are_files.nd rfl rfl (sw_true rfl rfl rfl (by decide +kernel)) (pi_seq (K := K) (pv 0)) (blkOk_by (N := ["files", "path", "paths", "lines", "_", "other"]) (sc := defScope s__are_files) (by decide +kernel)) (fun _ _ _ _ _ => (pg_tupU (K := K) (n := 2) rfl (pgs_cons (pg_name (i := 1) sc__are_files.nd rfl (Or.inl rfl)) (pgs_cons (pg_name (i := 4) sc__are_files.nd rfl (Or.inl rfl)) pgs_nil)))) (fun _ _ _ _ _ => pts_nil) (fun _ _ _ _ _ => (pv 1))) (pss_cons (ps_if (PW.pt (pw_or (pt_cmpR op_gtU (pe_callB (cr_len (K := K)) rfl (T.free 2) PySem.boot_len (pa_cons (pv 2) pa_nil)) (pe_gInt (T.int 20)) (nomark _)) (pw_or1 (pt_cmpR op_ltU (pe_lenSetU (K := K) rfl (T.free 2) (T.free 19) (pv 2)) (pe_callB (cr_len (K := K)) rfl (T.free 2) PySem.boot_len (pa_cons (pv 2) pa_nil)) (nomark _))))) (pss_one (ps_ret pe_bl)) pss_nil) (pss_cons (ps_for PassesOwn.never rfl (pi_seq (K := K) (pv 0)) (pg_tupU (K := K) (n := 2) rfl (pgs_cons (pg_name (i := 1) sc__are_files.nd rfl (Or.inr rfl)) (pgs_cons (pg_name (i := 3) sc__are_files.nd rfl (Or.inl rfl)) pgs_nil))) (pss_one (ps_if (PW.pt (pw_or (pt_not (pt_tru (K := K) (pe_callA D_is_path hr pass0 (pa_cons (pv 1) pa_nil)))) (pw_or (pt_not (pt_tru (K := K) (pe_callA D_is_lines hr pass0 (pa_cons (pv 3) pa_nil)))) (pw_or1 (pt_tru (K := K) (pe_callB (cr_anyU (K := K) rfl) rfl (T.free 18) (by decide +kernel) (pa_cons (pe_lc (own := [("other", 5)]) rfl sc__are_files.nd (pi_listU (K := K) (pv 2)) (blkOk_by (N := ["files", "path", "paths", "lines", "_", "other"]) (sc := defScope s__are_files) (by decide +kernel)) (fun _ _ _ _ _ => (pg_name (i := 5) sc__are_files.nd rfl (Or.inl rfl))) (fun _ _ _ _ _ => pts_nil) (fun _ _ _ _ _ => (pe_callA D_is_inside hr pass0 (pa_cons (pv 1) (pa_cons (pv 5) pa_nil))))) pa_nil))))))) (pss_one (ps_ret pe_bl)) pss_nil))) (pss_one (ps_ret pe_bl))))), ?_⟩
  have hlen := hsane.len
  rw [List.length_map] at hlen
  let d0 : RowA := (0, 0, (Str.empty, []))
  walk_at "st"
  refine c_seqC hsq fun J ok I hok => ?_
  refine lcQ_map I (fun i => V.str (rs.getD i d0).2.2.1) (by omega) hok (fun i x H' H'' R S hi e y k => ?_) (fun Dl H1 hD e hacc => ?_)
  · obtain ⟨rfl, r, hr1, rfl⟩ := y
    have ho := (hrs r (List.mem_of_getElem? hr1)).kp e
    walk_at "st"
    refine c_unT ho.row rfl ?_
    walk_at "st"
    refine ⟨rfl, ?_⟩
    walk_at "st"
    rw [← getD_of (d := d0) hr1]
    exact k _ Kp.refl
  have ep : ((List.range rs.length).map fun i => V.str (rs.getD i d0).2.2.1) = (pathsOf (rs.map fun r => r.2.2)).map V.str := by
    rw [range_getD rs d0 (fun r => V.str r.2.2.1)]
    simp [pathsOf, Function.comp_def]
  rw [ep] at hacc
  generalize hfs : (rs.map fun r => r.2.2) = fs at *
  have hl2 : rs.length = fs.length := by rw [← hfs, List.length_map]
  have hpl : (pathsOf fs).length = fs.length := by unfold pathsOf; rw [List.length_map]
  walk_at "st"
  have hpl2 : (((pathsOf fs).map V.str).length : Int) = (fs.length : Int) := by rw [List.length_map, hpl]
  rw [hpl2]
  have hpl3 : ∀ p ∈ pathsOf fs, p.length ≤ 1000 := fun p hp => by
    obtain ⟨f, hf, rfl⟩ := List.mem_map.mp hp
    exact (hsane.row f hf).1
  refine c_ite (fun h1 => ?_) (fun h1 => ?_)
  · walk_at "st"
    have g := q H1 e
    unfold goodF at g
    rw [decide_eq_false (by omega), Bool.false_and, Bool.false_and] at g
    exact g
  walk_at "st"
  refine ⟨Dl, pathsOf fs, rfl, SqL.of hacc, by omega, ?_⟩
  walk_at "st"
  rw [hpl2]
  refine c_ite (fun h2 => ?_) (fun h2 => ?_)
  · walk_at "st"
    have g := q H1 e
    unfold goodF at g
    rw [decide_eq_true (p := (ded (pathsOf fs)).length < fs.length) (by omega), Bool.not_true, Bool.and_false, Bool.false_and] at g
    exact g
  have e0 : goodF fs = fs.all (goodRow (pathsOf fs)) := by
    unfold goodF
    rw [decide_eq_true (by omega), decide_eq_false (by omega), Bool.not_false, Bool.true_and, Bool.true_and]
  rw [e0] at q
  walk_at "st"
  refine c_seqF (Sq.kp hsq e) fun J ok I hok => ?_
  refine forQ I (fun i σ H' => ∃ (v1 v3 : Option V), σ = [some (.ref a), v1, some (.ref Dl), v3, none, none] ∧ Kp [] H1 H' ∧ (fs.take i).all (goodRow (pathsOf fs)) = true) ⟨_, _, rfl, Kp.refl, rfl⟩ (by rintro i σ H' ⟨_, _, _, e', _⟩; exact hok H' e') ?_ ?_
  · rintro i x σ H2 _ hi ⟨v1, v3, rfl, e2, hg⟩ ⟨rfl, r, hr1, rfl⟩
    have ho := (hrs r (List.mem_of_getElem? hr1)).kp (e.trans e2)
    have hf : fs[i]? = some r.2.2 := by rw [← hfs, List.getElem?_map, hr1]; rfl
    obtain ⟨s1, s2, s3⟩ := hsane.row r.2.2 (List.mem_of_getElem? hf)
    have yes : goodRow (pathsOf fs) r.2.2 = true → (fs.take (i + 1)).all (goodRow (pathsOf fs)) = true := fun h => by rw [take_succ' hf, List.all_append, hg]; simp [h]
    have no : ∀ H', Kp [] H1 H' → goodRow (pathsOf fs) r.2.2 = false → Q (.bl false) H' := fun H' e' h => by
      have g := q H' (e.trans e')
      have : fs.all (goodRow (pathsOf fs)) = false := by
        cases q2 : fs.all (goodRow (pathsOf fs)) with
        | false => rfl
        | true => rw [List.all_eq_true.mp q2 _ (List.mem_of_getElem? hf)] at h; cases h
      rw [this] at g
      exact g
    walk_at "st"
    refine c_unT ho.row rfl ?_
    walk_at "st"
    refine ⟨_, rfl, by omega, fun H3 e3 => ?_⟩
    walk_at "st"
    refine c_iteNB (fun g1 => ?_) (fun g1 => ?_)
    · walk_at "st"
      exact no _ (e2.trans e3) (by unfold goodRow; rw [g1]; rfl)
    walk_at "st"
    refine ⟨_, _, rfl, (ho.kp e3).lines, by omega, fun y hy => Nat.le_trans (s3 y hy) (by decide), fun H4 e4 => ?_⟩
    walk_at "st"
    refine c_iteNB (fun g2 => ?_) (fun g2 => ?_)
    · walk_at "st"
      exact no _ (e2.trans (e3.trans e4)) (by unfold goodRow; rw [g2, Bool.and_false]; rfl)
    walk_at "st"
    have k4 : H4 Dl = some (.lst ((pathsOf fs).map V.str)) := e4.at0 (e3.at0 (e2.at0 hacc))
    refine lcL_map (fun o => V.bl (isInsideS r.2.2.1 o)) (fun _ => true) (SqL.of k4) (by omega) (fun y H' R S hy e' k1 k2 => ?_) (fun D2 H5 hD2 e5 hacc5 => ?_)
    · walk_at "st"
      refine ⟨rfl, ?_⟩
      walk_at "st"
      exact ⟨_, _, rfl, Nat.le_trans (hpl3 y hy) (by decide), k1 rfl _ Kp.refl⟩
    rw [fil_true, all_bl] at hacc5
    refine c_anyB (SqL.of hacc5) ?_
    rw [List.any_map]
    walk_at "st"
    have ea : ((pathsOf fs).any (id ∘ fun o => isInsideS r.2.2.1 o)) = (pathsOf fs).any fun o => isInsideS r.2.2.1 o := rfl
    rw [ea]
    refine c_iteB (fun g3 => ?_) (fun g3 => ?_)
    · walk_at "st"
      exact no _ (e2.trans (e3.trans (e4.trans e5))) (by unfold goodRow; rw [g3]; simp)
    · walk_at "st"
      exact ⟨_, _, rfl, e2.trans (e3.trans (e4.trans e5)), yes (by unfold goodRow; rw [g1, g2, g3]; rfl)⟩
  · rintro σ H2 ⟨v1, v3, rfl, e2, hg⟩
    rw [hl2, List.take_length] at hg
    walk_at "st"
    have g := q H2 (e.trans e2)
    rw [hg] at g
    exact g
theorem D__are_files (T : TX K mg) : DefAt P w K mg base CX0 "_are_files" 5 ["files"] (spAreFiles K) :=
  def_of T 8 21 sc__are_files bn__are_files (fun vs H Q E h => by obtain ⟨a, fs, rfl, _⟩ := h; rfl) (b__are_files T)
end
end K36


namespace K36
open PySem L2 Sa
section
variable {P : Program} {w : World} {K : PySem.W.Frag} {mg : Str → Option Value} {base : Heap}
theorem C_Tree (T : TX K mg) : ClsAt K mg "Tree" := ⟨T.glo 78, He.cls_ok (T.fact 146)⟩
theorem Mk_Tree (T : TX K mg) : Mk K (He.ga K "Tree") (He.ma K (He.ga K "Tree") "__init__") := He.mkr_ok (T.fact 147)
theorem F_Tree (T : TX K mg) : NoAttr K (He.ga K "Tree") "_files" := He.noat_ok (T.fact 148)
theorem sc_Tree___init__ : FnScope ["self", "files", "path", "lines"] ["self", "files"] (defScope s_Tree___init__) := ⟨rfl, rfl, rfl, by decide +kernel, rfl, by decide +kernel, by decide +kernel⟩
theorem bn_Tree___init__ : BindD "__init__" "Tree.__init__" s_Tree___init__ ["self", "files"] 1 := fun _ _ _ _ _ _ _ us its hl hi => match us, hl, its, hi with | [_, _], _, [_], _ => ⟨_, rfl, rfl⟩
def spTreeInit (K : PySem.W.Frag) : Sp := fun vs H Q E => ∃ (a x dx : Addr) (fs : List File), vs = [.ref x, .ref a] ∧ H x = some (.ins (He.ga K "Tree") dx []) ∧ RowsAt K H a fs ∧ Sane fs ∧
  (goodF fs = true → ∀ H', Kp [x] H H' → TreeAt K H' x (sortF fs) → Q .non H') ∧ (goodF fs = false → ∀ d H', Kp [] H H' → H' d = some (.xd [("name", .str "files")]) → E (.ref (He.ga K "OutOfRange")) (some d) H')
theorem ded_fold : ∀ (xs σ : List Str), (xs.foldl stepT σ).length ≤ σ.length + xs.length ∧ ((xs.foldl stepT σ).length = σ.length + xs.length → xs.Nodup ∧ ∀ x ∈ xs, x ∉ σ)
  | [], σ => ⟨Nat.le_refl _, fun _ => ⟨.nil, by simp⟩⟩
  | x :: r, σ => by
    obtain ⟨i1, i2⟩ := ded_fold r (stepT σ x)
    have hl := stepT_length σ x
    rw [List.foldl_cons, List.length_cons]
    by_cases h : σ.any (· == x) = true
    · rw [if_pos h] at hl
      exact ⟨by omega, fun e => by omega⟩
    · rw [if_neg h] at hl
      refine ⟨by omega, fun e => ?_⟩
      obtain ⟨j1, j2⟩ := i2 (by omega)
      have es : stepT σ x = σ ++ [x] := by unfold stepT; rw [if_neg h]
      rw [es] at j2
      have hx : x ∉ σ := fun hm => h (List.any_eq_true.mpr ⟨x, hm, by simp⟩)
      refine ⟨List.nodup_cons.mpr ⟨fun hm => j2 x hm (by simp), j1⟩, fun y hy => ?_⟩
      rcases List.mem_cons.mp hy with rfl | hy
      · exact hx
      · exact fun hm => j2 y hy (by simp [hm])
theorem ded_once {xs : List Str} (h : (ded xs).length = xs.length) : xs.Nodup := ((ded_fold xs []).2 (by rw [List.length_nil, Nat.zero_add]; exact h)).1
theorem goodF_once {fs : List File} (h : goodF fs = true) : Once fs := by
  simp only [goodF, Bool.and_eq_true, decide_eq_true_eq, Bool.not_eq_true', decide_eq_false_iff_not] at h
  have h1 := ded_le (pathsOf fs)
  have h2 : (pathsOf fs).length = fs.length := by unfold pathsOf; rw [List.length_map]
  show (pathsOf fs).Nodup
  exact ded_once (by omega)
theorem b_tree_init (T : TX K mg) : BodyMX P w K mg base "Tree" "__init__" "Tree.__init__" s_Tree___init__ ["self", "files", "path", "lines"] 5 (spTreeInit K) := by
  intro cdv A outer s H vs Q E h X hr tk
  obtain ⟨a, x, dx, fs, rfl, hx, hrows, hsane, q1, q2⟩ := h
  have D__are_files : DefAt P w K mg base CX0 "_are_files" 5 ["files"] (spAreFiles K) := D__are_files T
  have E_OutOfRange : ErrC P w K mg base "OutOfRange" "name" := E_OutOfRange T
  refine ⟨_, (pss_cons (ps_if (pt_not (pt_tru (K := K) (pe_callA D__are_files hr pass0 (pa_cons (pv 1) pa_nil)))) (pss_one (ps_raiseE (K := K) E_OutOfRange hr tk (pa_cons pe_str pa_nil))) pss_nil) (pss_one (ps_fldU (K := K) (pv 0) (pe_dc (own := [("path", 2), ("lines", 3)]) rfl sc_Tree___init__.nd (pi_seq (K := K) (pv 1)) (blkOk_by (N := ["self", "files", "path", "lines"]) (sc := defScope s_Tree___init__) (by decide +kernel)) (fun _ _ _ _ _ => (pg_tupU (K := K) (n := 2) rfl (pgs_cons (pg_name (i := 2) sc_Tree___init__.nd rfl (Or.inl rfl)) (pgs_cons (pg_name (i := 3) sc_Tree___init__.nd rfl (Or.inl rfl)) pgs_nil)))) (fun _ _ _ _ _ => pts_nil) (fun _ _ _ _ _ => (pv 2)) (fun _ _ _ _ _ => (pe_callTy (cr_tuple (K := K)) rfl (T.free 28) (by decide +kernel) (pa_cons (pv 3) pa_nil))))))), ?_⟩
  walk_at "st"
  refine ⟨a, fs, rfl, hrows, hsane, fun H1 e1 => ?_⟩
  walk_at "st"
  refine c_iteNB (fun g => ?_) (fun g => ?_)
  · walk_at "st"
    exact c_err fun d H2 N => q2 g d H2 (e1.trans N.kp) N.at_
  obtain ⟨rs, hsq, hfs, hrs⟩ := hrows
  let d0 : RowA := (0, 0, (Str.empty, []))
  have hl : rs.length = fs.length := by rw [← hfs, List.length_map]
  have once := goodF_once g
  walk_at "st"
  refine c_seqD (Sq.kp hsq e1) fun J ok I hok => ?_
  refine dcQ_map I (fun i => (rs.getD i d0).2.2.1) (fun i => .ref (rs.getD i d0).2.1) ?_ (by have := hsane.len; omega) hok (fun i y H' H'' R S hi e z k => ?_) (fun D H2 hD e2 hacc => ?_)
  · rw [range_getD rs d0 (fun r => r.2.2.1)]
    have : (rs.map fun r => r.2.2.1) = fs.map Prod.fst := by rw [← hfs, List.map_map]; rfl
    rw [this]
    exact once
  · obtain ⟨rfl, r, hr1, rfl⟩ := z
    have ho := (hrs r (List.mem_of_getElem? hr1)).kp (e1.trans e)
    walk_at "st"
    refine c_unT ho.row rfl ?_
    walk_at "st"
    refine ⟨rfl, ?_⟩
    walk_at "st"
    refine c_tupleT ho.lines ?_
    rw [← getD_of (d := d0) hr1]
    exact k _ Kp.refl
  rw [range_getD rs d0 (fun r => ((Sum.inr r.2.2.1 : Key), V.ref r.2.1))] at hacc
  walk_at "st"
  have hx2 : H2 x = some (.ins (He.ga K "Tree") dx []) := e2.at0 (e1.at0 hx)
  refine c_setFAt hx2 (C_Tree T).cls (F_Tree T) (by simp) ?_
  have nx : D ≠ x := fun z => by rw [z, hx2] at hacc; cases hacc
  have kk : Kp [x] H (upd H2 x (.ins (He.ga K "Tree") dx (putF "_files" (.ref D) []))) := (e1.trans e2).mono.trans (Kp.mut (by simp))
  refine q1 g _ kk ⟨dx, D, rs.map fun r => (r.2.1, r.2.2), upd_same, ?_, ?_, ?_, ?_⟩
  · rw [upd_ne nx, hacc, List.map_map]
    rfl
  · intro l hl
    obtain ⟨r, hr1, rfl⟩ := List.mem_map.mp hl
    have ho := (hrs r hr1).kp (e1.trans e2)
    have h4 := ho.lines
    rcases h4 with h3 | h3
    · refine .inl (rd_at (fun o ho2 => ?_) h3)
      by_cases hz : r.2.1 = x
      · exfalso
        have h3' : Rd H2 r.2.1 (.tup (r.2.2.2.map V.str)) := h3
        rw [hz] at h3'
        rcases h3' with h3 | ⟨o, h3⟩
        · rw [hx2] at h3; cases h3
        · rw [hx2] at h3; cases h3
      · rw [upd_ne hz]; exact ho2
    · exact .inr h3
  · rw [List.map_map]
    have : (Prod.snd ∘ fun r : RowA => (r.2.1, r.2.2)) = fun r : RowA => r.2.2 := rfl
    rw [this, hfs]
    exact once
  · rw [List.map_map]
    have : (Prod.snd ∘ fun r : RowA => (r.2.1, r.2.2)) = fun r : RowA => r.2.2 := rfl
    rw [this, hfs]
theorem M_Tree___init__ (T : TX K mg) : MethAt P w K mg base (L2.CX P w) "Tree" "__init__" 6 ["self", "files"] (spTreeInit K) :=
  meth_ofXD T 63 94 sc_Tree___init__ bn_Tree___init__ (List.cons_ne_nil _ _) (fun vs H Q E h => by obtain ⟨a, x, dx, fs, rfl, _⟩ := h; rfl) (b_tree_init T)
theorem bn0_Tree___init__ : BindD0 "__init__" "Tree.__init__" s_Tree___init__ ["self", "files"] := fun _ _ _ _ _ _ _ us its hl hi => match us, hl, its, hi with | [_], _, [_], _ => ⟨_, rfl, rfl⟩
theorem M0_Tree___init__ (T : TX K mg) : MethD P w K mg base (L2.CX P w) "Tree" "__init__" 6 ["self", "files"] (spTreeInit K) (.ref (He.dflAt ("Tree", some "__init__") 0 K)) :=
  meth_ofXD0 T 63 94 sc_Tree___init__ bn0_Tree___init__ rfl (fun vs H Q E h => by obtain ⟨a, x, dx, fs, rfl, _⟩ := h; rfl) (b_tree_init T)
theorem dflTree (T : TX K mg) (H : Hp) : Dp K H (.ref (He.dflAt ("Tree", some "__init__") 0 K)) (.tuple []) := T.cstA (p := He.dflAt ("Tree", some "__init__") 0) 4 rfl H
end
end K36



namespace K36
open PySem L2 Sa
section
variable {P : Program} {w : World} {K : PySem.W.Frag} {mg : Str → Option Value} {base : Heap}
theorem valV_at {ls : List (Addr × File)} (ho : Once (ls.map Prod.snd)) {p : Str} : valV (ls.map fun l => ((Sum.inr l.2.1 : Key), V.ref l.1)) (Sum.inr p) = (ls.find? fun l => decide (l.2.1 = p)).map fun l => V.ref l.1 := by
  unfold valV
  rw [List.find?_map, Option.map_map]
  congr 1
  congr 1
  funext l
  simp
/-- where the lines of a path lie -/
def linesAt (ls : List (Addr × File)) (p : Str) : Addr := ((ls.find? fun l => decide (l.2.1 = p)).map Prod.fst).getD 0
theorem linesAt_ok {ls : List (Addr × File)} (ho : Once (ls.map Prod.snd)) {f : File} (hf : f ∈ ls.map Prod.snd) : ∃ l ∈ ls, l.2 = f ∧ ls.find? (fun l => decide (l.2.1 = f.1)) = some l ∧ linesAt ls f.1 = l.1 := by
  obtain ⟨l0, hl0, rfl⟩ := List.mem_map.mp hf
  cases h : ls.find? fun l => decide (l.2.1 = l0.2.1) with
  | none =>
    have := List.find?_eq_none.mp h l0 hl0
    simp at this
  | some l =>
    have hm := List.mem_of_find?_eq_some h
    have he : l.2.1 = l0.2.1 := by have := List.find?_some h; simpa using this
    have e1 := (at_some ho).mpr (show (l0.2.1, l0.2.2) ∈ ls.map Prod.snd from List.mem_map_of_mem (f := Prod.snd) hl0)
    have e2 := (at_some ho).mpr (show (l.2.1, l.2.2) ∈ ls.map Prod.snd from List.mem_map_of_mem (f := Prod.snd) hm)
    rw [he, e1] at e2
    refine ⟨l, hm, Prod.ext he (Option.some.inj e2).symm, rfl, ?_⟩
    unfold linesAt
    rw [h]
    rfl
theorem sc_Tree_lines : FnScope ["self", "path"] ["self", "path"] (defScope s_Tree_lines) := ⟨rfl, rfl, rfl, by decide +kernel, rfl, by decide +kernel, by decide +kernel⟩
theorem bn_Tree_lines : BindM "lines" "Tree.lines" s_Tree_lines ["self", "path"] := fun _ _ _ _ _ _ us hl => match us, hl with | [_, _], _ => rfl
def spTLines (K : PySem.W.Frag) : Sp := fun vs H Q _ => ∃ (x : Addr) (p : Str) (fs : List File), vs = [.ref x, .str p] ∧ TreeAt K H x fs ∧ (at? fs p = none → Q .non H) ∧ (∀ ls l, at? fs p = some ls → SqT K H l (ls.map V.str) → Q (.ref l) H)
theorem b_tree_lines (T : TX K mg) : BodyM P w K mg base "Tree" "lines" "Tree.lines" s_Tree_lines ["self", "path"] 1 (spTLines K) := by
  intro cdv A outer s H vs Q E h X hr
  obtain ⟨x, p, fs, rfl, ⟨dx, d, ls, hx, hd, hls, ho, rfl⟩, q1, q2⟩ := h
  refine ⟨_, (pss_one (ps_ret (pe_dgetU (hu_of hr) (pe_fldU (K := K) (pv 0)) (pv 1)))), ?_⟩
  walk_at "st"
  refine c_fldAt hx (C_Tree T).cls (F_Tree T) rfl ?_
  refine ⟨d, rfl, .inl ⟨_, .inl hd⟩, ?_⟩
  walk_at "st"
  refine ⟨_, .inl ⟨_, Sum.inr p, .inl hd, rfl, rfl⟩, ?_⟩
  rw [valV_at ho]
  have ea : at? (sortF (ls.map Prod.snd)) p = (ls.find? fun l => decide (l.2.1 = p)).map fun l => l.2.2 := by
    rw [← at_perm ho (sortF_perm _).symm]
    unfold at?
    rw [List.find?_map, Option.map_map]
    rfl
  rw [ea] at q1
  rw [ea] at q2
  cases hf : ls.find? fun l => decide (l.2.1 = p) with
  | none =>
    rw [hf] at q1
    exact q1 rfl
  | some l =>
    rw [hf] at q2
    exact q2 _ _ rfl (hls l (List.mem_of_find?_eq_some hf))
theorem M_Tree_lines (T : TX K mg) : MethAt P w K mg base CX0 "Tree" "lines" 2 ["self", "path"] (spTLines K) :=
  meth_of T 65 96 sc_Tree_lines bn_Tree_lines (fun vs H Q E h => by obtain ⟨a, x, fs, rfl, _⟩ := h; rfl) (b_tree_lines T)
theorem sc_Tree_files : FnScope ["self", "path"] ["self"] (defScope s_Tree_files) := ⟨rfl, rfl, rfl, by decide +kernel, rfl, by decide +kernel, by decide +kernel⟩
theorem bn_Tree_files : BindM "files" "Tree.files" s_Tree_files ["self"] := fun _ _ _ _ _ _ us hl => match us, hl with | [_], _ => rfl
def spTFiles (K : PySem.W.Frag) : Sp := fun vs H Q _ => ∃ (x : Addr) (fs : List File), vs = [.ref x] ∧ TreeAt K H x fs ∧ fs.length ≤ 60 ∧ ∀ p H' (rs : List RowA), Kp [] H H' → SqT K H' p (rs.map fun r => V.ref r.1) → rs.map (fun r => r.2.2) = fs → (∀ r ∈ rs, RowOk K H' r) → Q (.ref p) H'
theorem b_tree_files (T : TX K mg) : BodyM P w K mg base "Tree" "files" "Tree.files" s_Tree_files ["self", "path"] 1 (spTFiles K) := by
  intro cdv A outer s H vs Q E h X hr
  obtain ⟨x, fs, rfl, ⟨dx, d, ls, hx, hd, hls, ho, rfl⟩, hn, q⟩ := h
  refine ⟨_, (pss_one (ps_ret (pe_callTy (cr_tuple (K := K)) rfl (T.free 28) (by decide +kernel) (pa_cons (pe_lc (own := [("path", 1)]) rfl sc_Tree_files.nd (pi_listU (K := K) (pe_callB (cr_sortedDU rfl) rfl (T.free 30) (by decide +kernel) (pa_cons (pe_fldU (K := K) (pv 0)) pa_nil))) (blkOk_by (N := ["self", "path"]) (sc := defScope s_Tree_files) (by decide +kernel)) (fun _ _ _ _ _ => (pg_name (i := 1) sc_Tree_files.nd rfl (Or.inl rfl))) (fun _ _ _ _ _ => pts_nil) (fun _ _ _ _ _ => (pe_tup (pa_cons (pv 1) (pa_cons (pe_dget (hu_of hr) (pe_fldU (K := K) (pv 0)) (pv 1) (fun _ _ => rfl)) pa_nil))))) pa_nil)))), ?_⟩
  walk_at "st"
  refine c_fldAt hx (C_Tree T).cls (F_Tree T) rfl ?_
  walk_at "st"
  rw [sortF_len, List.length_map] at hn
  refine ⟨d, _, (ls.map Prod.snd).map Prod.fst, rfl, .inl hd, ?_, by rw [List.length_map, List.length_map]; omega, fun ys p hp hs hpf => ?_⟩
  · rw [List.map_map, List.map_map, List.map_map]
    rfl
  have ey := sorted_keys hp hs
  subst ey
  generalize hfs : sortF (ls.map Prod.snd) = fs at *
  have hmem : ∀ f ∈ fs, f ∈ ls.map Prod.snd := fun f hf => (sortF_perm (ls.map Prod.snd)).subset (hfs ▸ hf)
  have hlen : fs.length = ls.length := by rw [← hfs, sortF_len, List.length_map]
  let d0 : File := (Str.empty, [])
  have hp1 : SqL K (upd H p (.lst ((fs.map Prod.fst).map V.str))) p (fs.map fun f => V.str f.1) := by
    rw [List.map_map]
    exact SqL.of upd_same
  refine ⟨p, rfl, ⟨_, hp1⟩, ?_⟩
  refine lcQ_new (itn_l (ys := fs) (u := fun f => V.str f.1)) (fun i => .tup [.str (fs.getD i d0).1, .ref (linesAt ls (fs.getD i d0).1)]) (by omega) (fun H' e => SqL.kp e hp1) (fun i y H' H'' R S hi e z k => ?_) (fun D qs H2 hD e2 hacc hql hqs => ?_)
  · obtain ⟨rfl, f, hf, rfl⟩ := z
    have k0 : Kp [] H H'' := (Kp.new hpf).trans e
    obtain ⟨l, hl1, rfl, hl3, hl4⟩ := linesAt_ok ho (hmem f (List.mem_of_getElem? hf))
    walk_at "st"
    refine ⟨rfl, ?_⟩
    walk_at "st"
    refine c_fldAt (k0.at0 hx) (C_Tree T).cls (F_Tree T) rfl ?_
    walk_at "st"
    refine ⟨d, .ref l.1, rfl, .inl ⟨_, Sum.inr l.2.1, .inl (k0.at0 hd), rfl, by rw [valV_at ho, hl3]; rfl⟩, ?_⟩
    walk_at "st"
    walk_at "nw"
    intro q4 H4 N
    refine k q4 H4 N.fr N.kp ?_
    rw [N.at_, getD_of (d := d0) hf, hl4]
  walk_at "st"
  refine c_tupleL (SqL.of hacc) fun p3 H3 N3 => ?_
  have kk : Kp [] H H3 := ((Kp.new hpf).trans e2).trans N3.kp
  refine q p3 H3 (List.zipWith (fun q f => (q, linesAt ls f.1, f)) qs fs) kk ?_ ?_ ?_
  · have : (List.zipWith (fun q f => (q, linesAt ls f.1, f)) qs fs).map (fun r : RowA => V.ref r.1) = qs.map V.ref := by
      rw [List.map_zipWith]
      apply List.ext_getElem?
      intro i
      rw [List.getElem?_zipWith, List.getElem?_map]
      by_cases hi : i < qs.length
      · rw [List.getElem?_eq_getElem hi, List.getElem?_eq_getElem (by omega)]
        rfl
      · rw [List.getElem?_eq_none (by omega)]
        rfl
    rw [this]
    exact SqT.of N3.at_
  · rw [List.map_zipWith]
    apply List.ext_getElem?
    intro i
    rw [List.getElem?_zipWith]
    by_cases hi : i < fs.length
    · rw [List.getElem?_eq_getElem hi, List.getElem?_eq_getElem (by omega)]
    · rw [List.getElem?_eq_none (l := fs) (by omega), List.getElem?_eq_none (l := qs) (by omega)]
  · intro r hr
    obtain ⟨i, hi, e⟩ := List.mem_iff_getElem.mp hr
    rw [List.getElem_zipWith] at e
    subst e
    rw [List.length_zipWith] at hi
    have hiq : i < qs.length := by omega
    have hif : i < fs.length := by omega
    obtain ⟨_, a2⟩ := hqs i _ (List.getElem?_eq_getElem hiq)
    rw [getD_of (d := d0) (List.getElem?_eq_getElem hif)] at a2
    obtain ⟨l, hl1, hl2, hl3, hl4⟩ := linesAt_ok ho (hmem _ (List.getElem_mem hif))
    refine ⟨SqT.of (N3.keep a2), ?_⟩
    show SqT K H3 (linesAt ls (fs[i]).1) ((fs[i]).2.map V.str)
    rw [hl4, ← hl2]
    exact SqT.kp kk (hls l hl1)
theorem M_Tree_files (T : TX K mg) : MethAt P w K mg base CX0 "Tree" "files" 2 ["self"] (spTFiles K) :=
  meth_of T 64 95 sc_Tree_files bn_Tree_files (fun vs H Q E h => by obtain ⟨a, x, rfl, _⟩ := h; rfl) (b_tree_files T)
end
end K36



namespace K36
open PySem L2 Sa
section
variable {P : Program} {w : World} {K : PySem.W.Frag} {mg : Str → Option Value} {base : Heap}
theorem sc_Tree_paths : FnScope ["self", "place", "path"] ["self", "place"] (defScope s_Tree_paths) := ⟨rfl, rfl, rfl, by decide +kernel, rfl, by decide +kernel, by decide +kernel⟩
theorem bn_Tree_paths : BindM "paths" "Tree.paths" s_Tree_paths ["self", "place"] := fun _ _ _ _ _ _ us hl => match us, hl with | [_, _], _ => rfl
def spTPaths (K : PySem.W.Frag) (g : Str → Str → Bool) : Sp := fun vs H Q _ => ∃ (x : Addr) (z : Str) (fs : List File), vs = [.ref x, .str z] ∧ TreeAt K H x fs ∧ fs.length ≤ 60 ∧ (∀ p ∈ pathsOf fs, p.length ≤ 1000) ∧ z.length ≤ 1000 ∧
  ∀ p H', Kp [] H H' → SqT K H' p (((pathsOf fs).filter fun y => g y z).map V.str) → Q (.ref p) H'
theorem b_tree_paths (T : TX K mg) : BodyM P w K mg base "Tree" "paths" "Tree.paths" s_Tree_paths ["self", "place", "path"] 2 (spTPaths K isInsideS) := by
  intro cdv A outer s H vs Q E h X hr
  obtain ⟨x, z, fs, rfl, ⟨dx, d, ls, hx, hd, hls, ho, hfs⟩, hn, hp0, hz, q⟩ := h
  have D_is_inside : DefAt P w K mg base CX0 "is_inside" 2 ["path", "place"] spInside := D_is_inside T
  refine ⟨_, (pss_one (ps_ret (pe_callTy (cr_tuple (K := K)) rfl (T.free 28) (by decide +kernel) (pa_cons (pe_lc (own := [("path", 2)]) rfl sc_Tree_paths.nd (pi_listU (K := K) (pe_callB (cr_sortedDU rfl) rfl (T.free 30) (by decide +kernel) (pa_cons (pe_fldU (K := K) (pv 0)) pa_nil))) (blkOk_by (N := ["self", "place", "path"]) (sc := defScope s_Tree_paths) (by decide +kernel)) (fun _ _ _ _ _ => (pg_name (i := 2) sc_Tree_paths.nd rfl (Or.inl rfl))) (fun _ _ _ _ _ => (pts_one (pt_tru (K := K) (pe_callA D_is_inside hr pass0 (pa_cons (pv 2) (pa_cons (pv 1) pa_nil)))))) (fun _ _ _ _ _ => (pv 2))) pa_nil)))), ?_⟩
  walk_at "st"
  refine c_fldAt hx (C_Tree T).cls (F_Tree T) rfl ?_
  walk_at "st"
  have hlen : fs.length = ls.length := by rw [hfs, sortF_len, List.length_map]
  refine ⟨d, _, (ls.map Prod.snd).map Prod.fst, rfl, .inl hd, ?_, by rw [List.length_map, List.length_map]; omega, fun ys p hp hs hpf => ?_⟩
  · rw [List.map_map, List.map_map, List.map_map]
    rfl
  have ey := sorted_keys hp hs
  subst ey
  rw [← hfs]
  have hp1 : SqL K (upd H p (.lst ((fs.map Prod.fst).map V.str))) p ((pathsOf fs).map V.str) := SqL.of upd_same
  refine ⟨p, rfl, ⟨_, hp1⟩, ?_⟩
  refine lcL_map V.str (fun y => isInsideS y z) hp1 (by unfold pathsOf; rw [List.length_map]; omega) (fun y H' R S hy e k1 k2 => ?_) (fun D H2 hD e2 hacc => ?_)
  · walk_at "st"
    refine ⟨rfl, ?_⟩
    walk_at "st"
    refine ⟨_, _, rfl, by omega, ?_⟩
    walk_at "st"
    refine c_iteB (fun g => ?_) (fun g => ?_)
    · walk_at "st"
      exact k1 g _ Kp.refl
    · exact k2 g _ Kp.refl
  walk_at "st"
  refine c_tupleL (SqL.of hacc) fun p3 H3 N3 => ?_
  exact q p3 H3 (((Kp.new hpf).trans e2).trans N3.kp) (SqT.of N3.at_)
theorem M_Tree_paths (T : TX K mg) : MethAt P w K mg base CX0 "Tree" "paths" 3 ["self", "place"] (spTPaths K isInsideS) :=
  meth_of T 66 97 sc_Tree_paths bn_Tree_paths (fun vs H Q E h => by obtain ⟨a, x, fs, rfl, _⟩ := h; rfl) (b_tree_paths T)
theorem sc_Tree_above : FnScope ["self", "path", "other"] ["self", "path"] (defScope s_Tree_above) := ⟨rfl, rfl, rfl, by decide +kernel, rfl, by decide +kernel, by decide +kernel⟩
theorem bn_Tree_above : BindM "above" "Tree.above" s_Tree_above ["self", "path"] := fun _ _ _ _ _ _ us hl => match us, hl with | [_, _], _ => rfl
theorem b_tree_above (T : TX K mg) : BodyM P w K mg base "Tree" "above" "Tree.above" s_Tree_above ["self", "path", "other"] 2 (spTPaths K fun y z => isInsideS z y) := by
  intro cdv A outer s H vs Q E h X hr
  obtain ⟨x, z, fs, rfl, ⟨dx, d, ls, hx, hd, hls, ho, hfs⟩, hn, hp0, hz, q⟩ := h
  have D_is_inside : DefAt P w K mg base CX0 "is_inside" 2 ["path", "place"] spInside := D_is_inside T
  refine ⟨_, (pss_one (ps_ret (pe_callTy (cr_tuple (K := K)) rfl (T.free 28) (by decide +kernel) (pa_cons (pe_lc (own := [("other", 2)]) rfl sc_Tree_above.nd (pi_listU (K := K) (pe_callB (cr_sortedDU rfl) rfl (T.free 30) (by decide +kernel) (pa_cons (pe_fldU (K := K) (pv 0)) pa_nil))) (blkOk_by (N := ["self", "path", "other"]) (sc := defScope s_Tree_above) (by decide +kernel)) (fun _ _ _ _ _ => (pg_name (i := 2) sc_Tree_above.nd rfl (Or.inl rfl))) (fun _ _ _ _ _ => (pts_one (pt_tru (K := K) (pe_callA D_is_inside hr pass0 (pa_cons (pv 1) (pa_cons (pv 2) pa_nil)))))) (fun _ _ _ _ _ => (pv 2))) pa_nil)))), ?_⟩
  walk_at "st"
  refine c_fldAt hx (C_Tree T).cls (F_Tree T) rfl ?_
  walk_at "st"
  have hlen : fs.length = ls.length := by rw [hfs, sortF_len, List.length_map]
  refine ⟨d, _, (ls.map Prod.snd).map Prod.fst, rfl, .inl hd, ?_, by rw [List.length_map, List.length_map]; omega, fun ys p hp hs hpf => ?_⟩
  · rw [List.map_map, List.map_map, List.map_map]
    rfl
  have ey := sorted_keys hp hs
  subst ey
  rw [← hfs]
  have hp1 : SqL K (upd H p (.lst ((fs.map Prod.fst).map V.str))) p ((pathsOf fs).map V.str) := SqL.of upd_same
  refine ⟨p, rfl, ⟨_, hp1⟩, ?_⟩
  refine lcL_map V.str (fun y => isInsideS z y) hp1 (by unfold pathsOf; rw [List.length_map]; omega) (fun y H' R S hy e k1 k2 => ?_) (fun D H2 hD e2 hacc => ?_)
  · have := hp0 y hy
    walk_at "st"
    refine ⟨rfl, ?_⟩
    walk_at "st"
    refine ⟨_, _, rfl, by omega, ?_⟩
    walk_at "st"
    refine c_iteB (fun g => ?_) (fun g => ?_)
    · walk_at "st"
      exact k1 g _ Kp.refl
    · exact k2 g _ Kp.refl
  walk_at "st"
  refine c_tupleL (SqL.of hacc) fun p3 H3 N3 => ?_
  exact q p3 H3 (((Kp.new hpf).trans e2).trans N3.kp) (SqT.of N3.at_)
theorem M_Tree_above (T : TX K mg) : MethAt P w K mg base CX0 "Tree" "above" 3 ["self", "path"] (spTPaths K fun y z => isInsideS z y) :=
  meth_of T 67 98 sc_Tree_above bn_Tree_above (fun vs H Q E h => by obtain ⟨a, x, fs, rfl, _⟩ := h; rfl) (b_tree_above T)
theorem sc_Tree_is_folder : FnScope ["self", "place"] ["self", "place"] (defScope s_Tree_is_folder) := ⟨rfl, rfl, rfl, by decide +kernel, rfl, by decide +kernel, by decide +kernel⟩
theorem bn_Tree_is_folder : BindM "is_folder" "Tree.is_folder" s_Tree_is_folder ["self", "place"] := fun _ _ _ _ _ _ us hl => match us, hl with | [_, _], _ => rfl
def isFolderF (fs : List File) (z : Str) : Bool := decide (z = PySem.Str.ofString "") || decide (0 < ((pathsOf fs).filter fun y => isInsideS y z).length)
def spTFolder (K : PySem.W.Frag) : Sp := fun vs H Q _ => ∃ (x : Addr) (z : Str) (fs : List File), vs = [.ref x, .str z] ∧ TreeAt K H x fs ∧ fs.length ≤ 60 ∧ (∀ p ∈ pathsOf fs, p.length ≤ 1000) ∧ z.length ≤ 1000 ∧ ∀ H', Kp [] H H' → Q (.bl (isFolderF fs z)) H'
theorem b_tree_folder (T : TX K mg) : BodyM P w K mg base "Tree" "is_folder" "Tree.is_folder" s_Tree_is_folder ["self", "place"] 3 (spTFolder K) := by
  intro cdv A outer s H vs Q E h X hr
  obtain ⟨x, z, fs, rfl, ht, hn, hp0, hz, q⟩ := h
  have M_Tree_paths : MethAt P w K mg base CX0 "Tree" "paths" 3 ["self", "place"] (spTPaths K isInsideS) := M_Tree_paths T
  have C_Tree : ClsAt K mg "Tree" := C_Tree T
  refine ⟨_, (pss_one (ps_ret (pe_or (pe_cmpR (op_eqU (K := K) hr.units) (pv 1) pe_str (nomark _)) (pe_one (pe_cmpR op_gtU (pe_callB (cr_len (K := K)) rfl (T.free 2) PySem.boot_len (pa_cons (pe_methS1 M_Tree_paths C_Tree hr at0 (pv 0) (pa_cons (pv 1) pa_nil)) pa_nil)) pe_int (nomark _)))))), ?_⟩
  unfold isFolderF at q
  obtain ⟨dx, d, ls, hx, _⟩ := id ht
  walk_at "st"
  refine c_orK (decide (0 < ((pathsOf fs).filter fun y => isInsideS y z).length)) (fun R k => ?_) q
  walk_at "st"
  refine c_recv hx rfl ?_
  walk_at "st"
  refine ⟨x, z, fs, rfl, ht, hn, hp0, hz, fun p H' e hp => ?_⟩
  walk_at "st"
  have g := k H' e
  have e1 : decide ((0 : Int) < ((((pathsOf fs).filter fun y => isInsideS y z).map V.str).length : Int)) = decide (0 < ((pathsOf fs).filter fun y => isInsideS y z).length) := by
    rw [List.length_map]
    congr 1
    exact propext ⟨fun h => by omega, fun h => by omega⟩
  first
    | (rw [e1]; exact g)
    | trace_state
theorem M_Tree_is_folder (T : TX K mg) : MethAt P w K mg base CX0 "Tree" "is_folder" 4 ["self", "place"] (spTFolder K) :=
  meth_of T 68 99 sc_Tree_is_folder bn_Tree_is_folder (fun vs H Q E h => by obtain ⟨a, x, fs, rfl, _⟩ := h; rfl) (b_tree_folder T)
end
end K36



namespace K36
open PySem L2 Sa
theorem c_newTree {K : PySem.W.Frag} {H1 : Hp} {L : Addr} {fs : List File} {Q : VK} {E : XK} (hL : RowsAt K H1 L fs) (hs : Sane fs) (q1 : goodF fs = true → ∀ x H', Kp [] H1 H' → TreeAt K H' x (sortF fs) → Q (.ref x) H')
    (q2 : goodF fs = false → ∀ d H', Kp [] H1 H' → H' d = some (.xd [("name", .str "files")]) → E (.ref (He.ga K "OutOfRange")) (some d) H') : NewK K "Tree" (spTreeInit K) [.ref L] H1 Q E := by
  intro x dx h1 h2 h3
  have k1 : Kp [] H1 (upd H1 dx (.own x)) := Kp.new h2
  have hx : upd H1 dx (.own x) x = none := by rw [upd_ne (Ne.symm h3)]; exact h1
  have k2 : Kp [] H1 (upd (upd H1 dx (.own x)) x (.ins (He.ga K "Tree") dx [])) := k1.trans (Kp.new hx)
  refine ⟨L, x, dx, fs, rfl, upd_same, hL.kp k2, hs, fun g H' e ht => ⟨rfl, q1 g x H' (Kp.drop_fresh (k2.mono.trans e) h1) ht⟩, fun g d H' e hd => q2 g d H' (k2.trans e) hd⟩
/-- the files with another one, without one -/
def withoutF (fs : List File) (p : Str) : List File := fs.filter fun f => !decide (f.1 = p)
def withF (fs : List File) (p : Str) (ls : List Str) : List File := withoutF fs p ++ [(p, ls)]
section
variable {P : Program} {w : World} {K : PySem.W.Frag} {mg : Str → Option Value} {base : Heap}
theorem sc_Tree_with_file : FnScope ["self", "path", "lines", "file"] ["self", "path", "lines"] (defScope s_Tree_with_file) := ⟨rfl, rfl, rfl, by decide +kernel, rfl, by decide +kernel, by decide +kernel⟩
theorem bn_Tree_with_file : BindM "with_file" "Tree.with_file" s_Tree_with_file ["self", "path", "lines"] := fun _ _ _ _ _ _ us hl => match us, hl with | [_, _, _], _ => rfl
def spTWith (K : PySem.W.Frag) : Sp := fun vs H Q E => ∃ (x l : Addr) (p : Str) (ls : List Str) (fs : List File), vs = [.ref x, .str p, .ref l] ∧ TreeAt K H x fs ∧ fs.length ≤ 60 ∧ SqT K H l (ls.map V.str) ∧ Sane (withF fs p ls) ∧
  (goodF (withF fs p ls) = true → ∀ y H', Kp [] H H' → TreeAt K H' y (sortF (withF fs p ls)) → Q (.ref y) H') ∧ (goodF (withF fs p ls) = false → ∀ d H', Kp [] H H' → H' d = some (.xd [("name", .str "files")]) → E (.ref (He.ga K "OutOfRange")) (some d) H')
theorem b_tree_with (T : TX K mg) : BodyMX P w K mg base "Tree" "with_file" "Tree.with_file" s_Tree_with_file ["self", "path", "lines", "file"] 7 (spTWith K) := by
  intro cdv A outer s H vs Q E h X hr tk
  obtain ⟨x, l, p, ls, fs, rfl, ht, hn, hl, hsane, q1, q2⟩ := h
  have M_Tree_files : MethAt P w K mg base CX0 "Tree" "files" 2 ["self"] (spTFiles K) := M_Tree_files T
  have M_Tree___init__ : MethAt P w K mg base (L2.CX P w) "Tree" "__init__" 6 ["self", "files"] (spTreeInit K) := M_Tree___init__ T
  have Mk_Tree : Mk K (He.ga K "Tree") (He.ma K (He.ga K "Tree") "__init__") := Mk_Tree T
  have C_Tree : ClsAt K mg "Tree" := C_Tree T
  refine ⟨_, (pss_one (ps_ret (pe_newS M_Tree___init__ Mk_Tree C_Tree hr (atW tk) (pa_cons (pe_op (op_addU (K := K)) (pe_lc (own := [("file", 3)]) rfl sc_Tree_with_file.nd (pi_tupU (K := K) (pe_methS0 M_Tree_files C_Tree hr at0 (pv 0))) (blkOk_by (N := ["self", "path", "lines", "file"]) (sc := defScope s_Tree_with_file) (by decide +kernel)) (fun _ _ _ _ _ => (pg_name (i := 3) sc_Tree_with_file.nd rfl (Or.inl rfl))) (fun _ _ _ _ _ => (pts_one (pt_cmpR (op_neU (K := K) hr.units) (pe_ix (ix_U (K := K)) (pv 3) pe_int (fun _ _ => rfl)) (pv 1) (nomark _)))) (fun _ _ _ _ _ => (pv 3))) (pe_lst (pa_cons (pe_tup (pa_cons (pv 1) (pa_cons (pv 2) pa_nil))) pa_nil))) pa_nil)))), ?_⟩
  obtain ⟨dx, d, _, hx, _⟩ := id ht
  walk_at "st"
  refine c_recv hx rfl ?_
  walk_at "st"
  refine ⟨x, fs, rfl, ht, hn, fun pf H1 rs e1 hpf hrs hok => ?_⟩
  walk_at "st"
  have hrl : rs.length = fs.length := by rw [← hrs, List.length_map]
  refine lcT_map (fun r : RowA => V.ref r.1) (fun r => !decide (r.2.2.1 = p)) hpf (by omega) (fun r H' R S hr1 e k1 k2 => ?_) (fun D H2 hD e2 hacc => ?_)
  · have ho := (hok r hr1).kp e
    walk_at "st"
    refine ⟨rfl, ?_⟩
    walk_at "st"
    refine c_ixT ho.row rfl ?_
    walk_at "st"
    refine c_iteN (fun g => ?_) (fun g => ?_)
    · walk_at "st"
      exact k1 (by rw [decide_eq_false g]; rfl) _ Kp.refl
    · exact k2 (by rw [decide_eq_true g]; rfl) _ Kp.refl
  walk_at "st"
  walk_at "nw"
  intro t H3 N3
  walk_at "st"
  walk_at "nw"
  intro t2 H4 N4
  walk_at "st"
  refine c_addL (N4.keep (N3.keep hacc)) N4.at_ (by rw [List.length_map, sizeLine_eq]; have := List.length_filter_le (fun r : RowA => !decide (r.2.2.1 = p)) rs; simp only [List.length_cons, List.length_nil]; omega) fun L H5 N5 => ?_
  walk_at "st"
  have k3 : Kp [] H1 H3 := e2.trans N3.kp
  have k5 : Kp [] H1 H5 := k3.trans (N4.kp.trans N5.kp)
  have hrows : RowsAt K H5 L (withF fs p ls) := by
    refine ⟨rs.filter (fun r => !decide (r.2.2.1 = p)) ++ [(t, l, (p, ls))], ?_, ?_, ?_⟩
    · rw [List.map_append]
      exact .inl (SqL.of N5.at_)
    · unfold withF withoutF
      rw [List.map_append, ← hrs, List.filter_map]
      rfl
    · intro r hr1
      rcases List.mem_append.mp hr1 with h | h
      · exact (hok r (List.mem_filter.mp h).1).kp k5
      · rw [List.mem_singleton.mp h]
        exact ⟨SqT.of (N5.keep (N4.keep N3.at_)), SqT.kp (e1.trans k5) hl⟩
  refine c_newTree hrows hsane (fun g y H' e hy => q1 g y H' (e1.trans (k5.trans e)) hy) (fun g d H' e hd => q2 g d H' (e1.trans (k5.trans e)) hd)
theorem M_Tree_with_file (T : TX K mg) : MethAt P w K mg base (L2.CX P w) "Tree" "with_file" 8 ["self", "path", "lines"] (spTWith K) :=
  meth_ofX T 69 100 sc_Tree_with_file bn_Tree_with_file (fun vs H Q E h => by obtain ⟨a, x, fs, _, _, rfl, _⟩ := h; rfl) (b_tree_with T)
theorem sc_Tree_without : FnScope ["self", "path", "file"] ["self", "path"] (defScope s_Tree_without) := ⟨rfl, rfl, rfl, by decide +kernel, rfl, by decide +kernel, by decide +kernel⟩
theorem bn_Tree_without : BindM "without" "Tree.without" s_Tree_without ["self", "path"] := fun _ _ _ _ _ _ us hl => match us, hl with | [_, _], _ => rfl
def spTWithout (K : PySem.W.Frag) : Sp := fun vs H Q E => ∃ (x : Addr) (p : Str) (fs : List File), vs = [.ref x, .str p] ∧ TreeAt K H x fs ∧ fs.length ≤ 60 ∧ Sane (withoutF fs p) ∧
  (goodF (withoutF fs p) = true → ∀ y H', Kp [] H H' → TreeAt K H' y (sortF (withoutF fs p)) → Q (.ref y) H') ∧ (goodF (withoutF fs p) = false → ∀ d H', Kp [] H H' → H' d = some (.xd [("name", .str "files")]) → E (.ref (He.ga K "OutOfRange")) (some d) H')
theorem b_tree_without (T : TX K mg) : BodyMX P w K mg base "Tree" "without" "Tree.without" s_Tree_without ["self", "path", "file"] 7 (spTWithout K) := by
  intro cdv A outer s H vs Q E h X hr tk
  obtain ⟨x, p, fs, rfl, ht, hn, hsane, q1, q2⟩ := h
  have M_Tree_files : MethAt P w K mg base CX0 "Tree" "files" 2 ["self"] (spTFiles K) := M_Tree_files T
  have M_Tree___init__ : MethAt P w K mg base (L2.CX P w) "Tree" "__init__" 6 ["self", "files"] (spTreeInit K) := M_Tree___init__ T
  have Mk_Tree : Mk K (He.ga K "Tree") (He.ma K (He.ga K "Tree") "__init__") := Mk_Tree T
  have C_Tree : ClsAt K mg "Tree" := C_Tree T
  refine ⟨_, (pss_one (ps_ret (pe_newS M_Tree___init__ Mk_Tree C_Tree hr (atW tk) (pa_cons (pe_lc (own := [("file", 2)]) rfl sc_Tree_without.nd (pi_tupU (K := K) (pe_methS0 M_Tree_files C_Tree hr at0 (pv 0))) (blkOk_by (N := ["self", "path", "file"]) (sc := defScope s_Tree_without) (by decide +kernel)) (fun _ _ _ _ _ => (pg_name (i := 2) sc_Tree_without.nd rfl (Or.inl rfl))) (fun _ _ _ _ _ => (pts_one (pt_cmpR (op_neU (K := K) hr.units) (pe_ix (ix_U (K := K)) (pv 2) pe_int (fun _ _ => rfl)) (pv 1) (nomark _)))) (fun _ _ _ _ _ => (pv 2))) pa_nil)))), ?_⟩
  obtain ⟨dx, d, _, hx, _⟩ := id ht
  walk_at "st"
  refine c_recv hx rfl ?_
  walk_at "st"
  refine ⟨x, fs, rfl, ht, hn, fun pf H1 rs e1 hpf hrs hok => ?_⟩
  walk_at "st"
  have hrl : rs.length = fs.length := by rw [← hrs, List.length_map]
  refine lcT_map (fun r : RowA => V.ref r.1) (fun r => !decide (r.2.2.1 = p)) hpf (by omega) (fun r H' R S hr1 e k1 k2 => ?_) (fun D H2 hD e2 hacc => ?_)
  · have ho := (hok r hr1).kp e
    walk_at "st"
    refine ⟨rfl, ?_⟩
    walk_at "st"
    refine c_ixT ho.row rfl ?_
    walk_at "st"
    refine c_iteN (fun g => ?_) (fun g => ?_)
    · walk_at "st"
      exact k1 (by rw [decide_eq_false g]; rfl) _ Kp.refl
    · exact k2 (by rw [decide_eq_true g]; rfl) _ Kp.refl
  walk_at "st"
  have hrows : RowsAt K H2 D (withoutF fs p) := by
    refine ⟨rs.filter (fun r => !decide (r.2.2.1 = p)), .inl (SqL.of hacc), ?_, ?_⟩
    · unfold withoutF
      rw [← hrs, List.filter_map]
      rfl
    · intro r hr1
      exact (hok r (List.mem_filter.mp hr1).1).kp e2
  refine c_newTree hrows hsane (fun g y H' e hy => q1 g y H' (e1.trans (e2.trans e)) hy) (fun g d H' e hd => q2 g d H' (e1.trans (e2.trans e)) hd)
theorem M_Tree_without (T : TX K mg) : MethAt P w K mg base (L2.CX P w) "Tree" "without" 8 ["self", "path"] (spTWithout K) :=
  meth_ofX T 70 101 sc_Tree_without bn_Tree_without (fun vs H Q E h => by obtain ⟨a, x, fs, rfl, _⟩ := h; rfl) (b_tree_without T)
end
end K36



namespace K36
open PySem L2 Sa
inductive Action where
  | read (p : Str) | kind (z : Str) | list (z : Str) | find (z w : Str) | count (z : Str)
  | write (p : Str) (ls : List Str) | remove (p : Str) | move (p t : Str) | splice (p : Str) (old new : List Str)
/-- an action as it lies in the heap -/
def ActAt (K : PySem.W.Frag) (H : Hp) (a : Addr) : Action → Prop
  | .read p => SqT K H a [.str "read", .str p]
  | .kind z => SqT K H a [.str "kind", .str z]
  | .list z => SqT K H a [.str "list", .str z]
  | .find z w => SqT K H a [.str "find", .str z, .str w]
  | .count z => SqT K H a [.str "count", .str z]
  | .write p ls => ∃ l, SqT K H a [.str "write", .str p, .ref l] ∧ SqT K H l (ls.map V.str)
  | .remove p => SqT K H a [.str "remove", .str p]
  | .move p t => SqT K H a [.str "move", .str p, .str t]
  | .splice p old new => ∃ l m, SqT K H a [.str "splice", .str p, .ref l, .ref m] ∧ SqT K H l (old.map V.str) ∧ SqT K H m (new.map V.str)
theorem ActAt.kp {K : PySem.W.Frag} {H H' : Hp} {a : Addr} (e : Kp [] H H') : ∀ {x : Action}, ActAt K H a x → ActAt K H' a x
  | .read _, h => SqT.kp e h
  | .kind _, h => SqT.kp e h
  | .list _, h => SqT.kp e h
  | .find _ _, h => SqT.kp e h
  | .count _, h => SqT.kp e h
  | .write _ _, ⟨l, h1, h2⟩ => ⟨l, SqT.kp e h1, SqT.kp e h2⟩
  | .remove _, h => SqT.kp e h
  | .move _ _, h => SqT.kp e h
  | .splice _ _ _, ⟨l, m, h1, h2, h3⟩ => ⟨l, m, SqT.kp e h1, SqT.kp e h2, SqT.kp e h3⟩
/-- sizes that are no matter -/
def saneS (z : Str) : Prop := z.length ≤ 1000
def saneL (ys : List Str) : Prop := ys.length ≤ 500 ∧ ∀ y ∈ ys, y.length ≤ 1000
def Action.sane : Action → Prop
  | .read p => saneS p
  | .kind z => saneS z
  | .list z => saneS z
  | .find z w => saneS z ∧ saneS w
  | .count z => saneS z
  | .write p ls => saneS p ∧ saneL ls
  | .remove p => saneS p
  | .move p t => saneS p ∧ saneS t
  | .splice p old new => saneS p ∧ saneL old ∧ saneL new
/-- the first part that is out of bounds -/
def Action.bad : Action → Option Str
  | .read p => if isPathS p then none else some "path"
  | .kind z => if isPlaceS z then none else some "place"
  | .list z => if isPlaceS z then none else some "place"
  | .find z w => if isPlaceS z then (if isWordS w then none else some "word") else some "place"
  | .count z => if isPlaceS z then none else some "place"
  | .write p ls => if isPathS p then (if isLinesS ls then none else some "lines") else some "path"
  | .remove p => if isPathS p then none else some "path"
  | .move p t => if isPathS p then (if isPathS t then none else some "target") else some "path"
  | .splice p old new => if isPathS p then (if isLinesS old && decide (0 < old.length) then (if isLinesS new then none else some "new") else some "old") else some "path"
section
variable {P : Program} {w : World} {K : PySem.W.Frag} {mg : Str → Option Value} {base : Heap}
/-- the error of a bad part -/
def RaisesE (K : PySem.W.Frag) (H : Hp) (E : XK) (nm : Str) : Prop := ∀ d H', Kp [] H H' → H' d = some (.xd [("name", .str nm)]) → E (.ref (He.ga K "OutOfRange")) (some d) H'
theorem RaisesE.kp {K : PySem.W.Frag} {H H1 : Hp} {E : XK} {nm : Str} (h : RaisesE K H E nm) (e : Kp [] H H1) : RaisesE K H1 E nm := fun d H' e' hd => h d H' (e.trans e') hd
def spCheck (K : PySem.W.Frag) : Sp := fun vs H Q E => ∃ (b : Bool) (nm : Str), vs = [.bl b, .str nm] ∧ (b = true → Q .non H) ∧ (b = false → RaisesE K H E nm)
theorem sc__check : FnScope ["good", "name"] ["good", "name"] (defScope s__check) := ⟨rfl, rfl, rfl, by decide +kernel, rfl, by decide +kernel, by decide +kernel⟩
theorem bn__check : BindN "_check" s__check ["good", "name"] := fun _ _ _ _ _ _ us hl => match us, hl with | [_, _], _ => rfl
theorem b__check (T : TX K mg) : BodyX P w K mg base "_check" s__check ["good", "name"] 3 (spCheck K) := by
  intro cdv A outer s H vs Q E h X hr tk
  obtain ⟨b, nm, rfl, q1, q2⟩ := h
  have E_OutOfRange := E_OutOfRange (P := P) (w := w) (base := base) T
  refine ⟨_, (pss_one (ps_if (pt_not (pt_tru (K := K) (pv 0))) (pss_one (ps_raiseE (K := K) E_OutOfRange hr tk (pa_cons (pv 1) pa_nil))) pss_nil)), ?_⟩
  walk_at "st"
  refine c_iteNB (fun g => ?_) (fun g => ?_)
  · walk_at "st"
    exact c_err fun d H2 N => q2 g d H2 N.kp N.at_
  · walk_at "st"
    exact q1 g
theorem D__check (T : TX K mg) : DefAt P w K mg base (L2.CX P w) "_check" 4 ["good", "name"] (spCheck K) :=
  def_ofX T 10 25 sc__check bn__check (by walk_at "len") (b__check T)
def spCheckAct (K : PySem.W.Frag) : Sp := fun vs H Q E => ∃ (a : Addr) (x : Action), vs = [.ref a] ∧ ActAt K H a x ∧ x.sane ∧ (x.bad = none → ∀ H', Kp [] H H' → Q .non H') ∧ (∀ nm, x.bad = some nm → RaisesE K H E nm)
theorem sc_check_action : FnScope ["action", "word"] ["action"] (defScope s_check_action) := ⟨rfl, rfl, rfl, by decide +kernel, rfl, by decide +kernel, by decide +kernel⟩
theorem bn_check_action : BindN "check_action" s_check_action ["action"] := fun _ _ _ _ _ _ us hl => match us, hl with | [_], _ => rfl
theorem b_check_action (T : TX K mg) : BodyX P w K mg base "check_action" s_check_action ["action", "word"] 4 (spCheckAct K) := by
  intro cdv A outer s H vs Q E h X hr tk
  obtain ⟨a, x, rfl, ha, hs, q1, q2⟩ := h
  have D__check := D__check (P := P) (w := w) (base := base) T; have D_is_lines := D_is_lines (P := P) (w := w) (base := base) T; have D_is_path := D_is_path (P := P) (w := w) (base := base) T; have D_is_place := D_is_place (P := P) (w := w) (base := base) T; have D_is_word := D_is_word (P := P) (w := w) (base := base) T
  refine ⟨_, (pss_cons (ps_set (i := 1) sc_check_action.nd rfl (Or.inl rfl) (pe_ix (ix_U (K := K)) (pv 0) pe_int (fun _ _ => rfl))) (pss_cons (ps_if (PW.pt (pw_or (pt_cmpR (op_eqU (K := K) hr.units) (pv 1) pe_str (nomark _)) (pw_or (pt_cmpR (op_eqU (K := K) hr.units) (pv 1) pe_str (nomark _)) (pw_or (pt_cmpR (op_eqU (K := K) hr.units) (pv 1) pe_str (nomark _)) (pw_or1 (pt_cmpR (op_eqU (K := K) hr.units) (pv 1) pe_str (nomark _))))))) (pss_one (ps_expr (pe_callX D__check hr tk (pa_cons (pe_callA D_is_place hr pass0 (pa_cons (pe_ix (ix_U (K := K)) (pv 0) pe_int (fun _ _ => rfl)) pa_nil)) (pa_cons pe_str pa_nil))))) (pss_one (ps_expr (pe_callX D__check hr tk (pa_cons (pe_callA D_is_path hr pass0 (pa_cons (pe_ix (ix_U (K := K)) (pv 0) pe_int (fun _ _ => rfl)) pa_nil)) (pa_cons pe_str pa_nil)))))) (pss_one (ps_if (pt_cmpR (op_eqU (K := K) hr.units) (pv 1) pe_str (nomark _)) (pss_one (ps_expr (pe_callX D__check hr tk (pa_cons (pe_callA D_is_word hr pass0 (pa_cons (pe_ix (ix_U (K := K)) (pv 0) pe_int (fun _ _ => rfl)) pa_nil)) (pa_cons pe_str pa_nil))))) (pss_one (ps_if (pt_cmpR (op_eqU (K := K) hr.units) (pv 1) pe_str (nomark _)) (pss_one (ps_expr (pe_callX D__check hr tk (pa_cons (pe_callA D_is_lines hr pass0 (pa_cons (pe_ix (ix_U (K := K)) (pv 0) pe_int (fun _ _ => rfl)) pa_nil)) (pa_cons pe_str pa_nil))))) (pss_one (ps_if (pt_cmpR (op_eqU (K := K) hr.units) (pv 1) pe_str (nomark _)) (pss_one (ps_expr (pe_callX D__check hr tk (pa_cons (pe_callA D_is_path hr pass0 (pa_cons (pe_ix (ix_U (K := K)) (pv 0) pe_int (fun _ _ => rfl)) pa_nil)) (pa_cons pe_str pa_nil))))) (pss_one (ps_if (pt_cmpR (op_eqU (K := K) hr.units) (pv 1) pe_str (nomark _)) (pss_cons (ps_expr (pe_callX D__check hr tk (pa_cons (pe_and (pe_callA D_is_lines hr pass0 (pa_cons (pe_ix (ix_U (K := K)) (pv 0) pe_int (fun _ _ => rfl)) pa_nil)) (pe_one (pe_cmpR op_gtU (pe_callB (cr_len (K := K)) rfl (T.free 2) PySem.boot_len (pa_cons (pe_ix (ix_U (K := K)) (pv 0) pe_int (fun _ _ => rfl)) pa_nil)) pe_int (nomark _)))) (pa_cons pe_str pa_nil)))) (pss_one (ps_expr (pe_callX D__check hr tk (pa_cons (pe_callA D_is_lines hr pass0 (pa_cons (pe_ix (ix_U (K := K)) (pv 0) pe_int (fun _ _ => rfl)) pa_nil)) (pa_cons pe_str pa_nil)))))) pss_nil)))))))))), ?_⟩
  have big : ∀ {z : Str}, saneS z → z.length ≤ 100000 := fun {z} h => Nat.le_trans h (by decide)
  have bigL : ∀ {ys : List Str}, saneL ys → ys.length ≤ 1000 ∧ ∀ y ∈ ys, y.length ≤ 100000 := fun {ys} h => ⟨Nat.le_trans h.1 (by decide), fun y hy => Nat.le_trans (h.2 y hy) (by decide)⟩
  cases x with
  | read p =>
    walk_at "dc"
    refine ⟨p, rfl, big hs, fun H1 e1 => ?_⟩
    walk_at "st"
    refine ⟨_, _, rfl, fun g1 => ?_, fun g1 => ?_⟩
    rotate_left
    · exact (q2 _ (by simp [Action.bad, g1])).kp e1
    walk_at "dc"
    exact q1 (by simp [Action.bad, g1]) _ e1
  | kind p =>
    walk_at "dc"
    refine ⟨p, rfl, big hs, fun H1 e1 => ?_⟩
    walk_at "st"
    refine ⟨_, _, rfl, fun g1 => ?_, fun g1 => ?_⟩
    rotate_left
    · exact (q2 _ (by simp [Action.bad, g1])).kp e1
    walk_at "dc"
    exact q1 (by simp [Action.bad, g1]) _ e1
  | list p =>
    walk_at "dc"
    refine ⟨p, rfl, big hs, fun H1 e1 => ?_⟩
    walk_at "st"
    refine ⟨_, _, rfl, fun g1 => ?_, fun g1 => ?_⟩
    rotate_left
    · exact (q2 _ (by simp [Action.bad, g1])).kp e1
    walk_at "dc"
    exact q1 (by simp [Action.bad, g1]) _ e1
  | count p =>
    walk_at "dc"
    refine ⟨p, rfl, big hs, fun H1 e1 => ?_⟩
    walk_at "st"
    refine ⟨_, _, rfl, fun g1 => ?_, fun g1 => ?_⟩
    rotate_left
    · exact (q2 _ (by simp [Action.bad, g1])).kp e1
    walk_at "dc"
    exact q1 (by simp [Action.bad, g1]) _ e1
  | remove p =>
    walk_at "dc"
    refine ⟨p, rfl, big hs, fun H1 e1 => ?_⟩
    walk_at "st"
    refine ⟨_, _, rfl, fun g1 => ?_, fun g1 => ?_⟩
    rotate_left
    · exact (q2 _ (by simp [Action.bad, g1])).kp e1
    walk_at "dc"
    exact q1 (by simp [Action.bad, g1]) _ e1
  | find z w =>
    walk_at "dc"
    refine ⟨z, rfl, big hs.1, fun H1 e1 => ?_⟩
    walk_at "st"
    refine ⟨_, _, rfl, fun g1 => ?_, fun g1 => ?_⟩
    rotate_left
    · exact (q2 _ (by simp [Action.bad, g1])).kp e1
    walk_at "dc"
    refine c_ixT (SqT.kp e1 ha) rfl ?_
    walk_at "st"
    refine ⟨w, rfl, big hs.2, fun H2 e2 => ?_⟩
    walk_at "st"
    refine ⟨_, _, rfl, fun g2 => ?_, fun g2 => ?_⟩
    rotate_left
    · exact (q2 _ (by simp [Action.bad, g1, g2])).kp (e1.trans e2)
    walk_at "dc"
    exact q1 (by simp [Action.bad, g1, g2]) _ (e1.trans e2)
  | move p t =>
    walk_at "dc"
    refine ⟨p, rfl, big hs.1, fun H1 e1 => ?_⟩
    walk_at "st"
    refine ⟨_, _, rfl, fun g1 => ?_, fun g1 => ?_⟩
    rotate_left
    · exact (q2 _ (by simp [Action.bad, g1])).kp e1
    walk_at "dc"
    refine c_ixT (SqT.kp e1 ha) rfl ?_
    walk_at "st"
    refine ⟨t, rfl, big hs.2, fun H2 e2 => ?_⟩
    walk_at "st"
    refine ⟨_, _, rfl, fun g2 => ?_, fun g2 => ?_⟩
    rotate_left
    · exact (q2 _ (by simp [Action.bad, g1, g2])).kp (e1.trans e2)
    walk_at "dc"
    exact q1 (by simp [Action.bad, g1, g2]) _ (e1.trans e2)
  | write p ls =>
    obtain ⟨l, ha, hl⟩ := ha
    walk_at "dc"
    refine ⟨p, rfl, big hs.1, fun H1 e1 => ?_⟩
    walk_at "st"
    refine ⟨_, _, rfl, fun g1 => ?_, fun g1 => ?_⟩
    rotate_left
    · exact (q2 _ (by simp [Action.bad, g1])).kp e1
    walk_at "dc"
    refine c_ixT (SqT.kp e1 ha) rfl ?_
    walk_at "st"
    refine ⟨_, _, rfl, SqT.kp e1 hl, (bigL hs.2).1, (bigL hs.2).2, fun H2 e2 => ?_⟩
    walk_at "st"
    refine ⟨_, _, rfl, fun g2 => ?_, fun g2 => ?_⟩
    rotate_left
    · exact (q2 _ (by simp [Action.bad, g1, g2])).kp (e1.trans e2)
    walk_at "dc"
    exact q1 (by simp [Action.bad, g1, g2]) _ (e1.trans e2)
  | splice p old new =>
    obtain ⟨l, m, ha, hl, hm⟩ := ha
    walk_at "dc"
    refine ⟨p, rfl, big hs.1, fun H1 e1 => ?_⟩
    walk_at "st"
    refine ⟨_, _, rfl, fun g1 => ?_, fun g1 => ?_⟩
    rotate_left
    · exact (q2 _ (by simp [Action.bad, g1])).kp e1
    walk_at "dc"
    refine c_ixT (SqT.kp e1 ha) rfl ?_
    walk_at "st"
    refine ⟨_, _, rfl, SqT.kp e1 hl, (bigL hs.2.1).1, (bigL hs.2.1).2, fun H2 e2 => ?_⟩
    walk_at "st"
    refine c_andK (decide (0 < old.length)) (fun R k => ?_) (fun H3 e3 => ?_)
    · walk_at "st"
      refine c_ixT (SqT.kp (e1.trans e2) ha) rfl ?_
      walk_at "st"
      refine c_lenT (SqT.kp (e1.trans e2) hl) ?_
      walk_at "st"
      have e : decide ((0 : Int) < ((old.map V.str).length : Int)) = decide (0 < old.length) := by rw [List.length_map]; congr 1; exact propext ⟨fun h => by omega, fun h => by omega⟩
      rw [e]
      exact k _ Kp.refl
    walk_at "st"
    refine ⟨_, _, rfl, fun g2 => ?_, fun g2 => ?_⟩
    rotate_left
    · exact (q2 _ (by simp only [Action.bad, g1, g2]; rfl)).kp ((e1.trans e2).trans e3)
    walk_at "dc"
    refine c_ixT (SqT.kp ((e1.trans e2).trans e3) ha) rfl ?_
    walk_at "st"
    refine ⟨_, _, rfl, SqT.kp ((e1.trans e2).trans e3) hm, (bigL hs.2.2).1, (bigL hs.2.2).2, fun H4 e4 => ?_⟩
    walk_at "st"
    refine ⟨_, _, rfl, fun g3 => ?_, fun g3 => ?_⟩
    rotate_left
    · exact (q2 _ (by simp only [Action.bad, g1, g2, g3]; rfl)).kp (((e1.trans e2).trans e3).trans e4)
    walk_at "dc"
    exact q1 (by simp only [Action.bad, g1, g2, g3]; rfl) _ (((e1.trans e2).trans e3).trans e4)
theorem D_check_action (T : TX K mg) : DefAt P w K mg base (L2.CX P w) "check_action" 5 ["action"] (spCheckAct K) :=
  def_ofX T 11 26 sc_check_action bn_check_action (by walk_at "len") (b_check_action T)
end
end K36



namespace K36
open PySem L2 Sa
/-! ## the plain model of questions -/
def Action.isQ : Action → Bool
  | .read _ | .kind _ | .list _ | .find _ _ | .count _ => true
  | _ => false
def insideF (fs : List File) (z : Str) : List Str := (pathsOf fs).filter fun y => isInsideS y z
def aboveF (fs : List File) (z : Str) : List Str := (pathsOf fs).filter fun y => isInsideS z y
def startN (z : Str) : Int := if decide (z = PySem.Str.ofString "") = true then 0 else (z.length : Int) + 1
def firstN (z p : Str) : Str := (Txt.partition (cutS p (some (startN z)) none) (PySem.Str.ofString "/")).1 ++ (Txt.partition (cutS p (some (startN z)) none) (PySem.Str.ofString "/")).2.1
def namesF (fs : List File) (z : Str) : List Str := sortS (ded ((insideF fs z).map (firstN z)))
def rowsD (p : Str) (ls : List Str) (w : Str) : List PyData := ((List.range ls.length).filter fun i => occS (ls.getD i Str.empty) w).map fun i => .tuple [.str p, .int (i : Nat)]
def foundPs (fs : List File) (z : Str) : List Str := sortS (insideF fs z ++ if (at? fs z).isSome then [z] else [])
def foundF (fs : List File) (z w : Str) : List PyData := (foundPs fs z).flatMap fun p => rowsD p ((at? fs p).getD []) w
def wordD (w : Str) : PyData := .tuple [.str w]
def askF (fs : List File) : Action → PyData
  | .read p => (match at? fs p with
    | none => wordD "none"
    | some ls => .tuple [.str "lines", strsD ls])
  | .kind z => if (at? fs z).isSome then wordD "file" else if isFolderF fs z then wordD "folder" else wordD "none"
  | .find z w => if (at? fs z).isSome || isFolderF fs z then .tuple [.str "found", .tuple (foundF fs z w)] else wordD "none"
  | .count z => if isFolderF fs z then .tuple [.str "many", .int ((insideF fs z).length : Nat)] else wordD "none"
  | .list z => if isFolderF fs z then .tuple [.str "names", strsD (namesF fs z)] else wordD "none"
  | _ => wordD "none"
/-! ## trees that are good -/
theorem lenSum (xs : List Str) (n : Nat) (h : ∀ x ∈ xs, x.length ≤ n) : (xs.map (·.length)).sum ≤ n * xs.length := by
  induction xs with
  | nil => simp
  | cons x r ih =>
    have h1 := h x (List.mem_cons_self ..)
    have h2 := ih fun y hy => h y (List.mem_cons_of_mem _ hy)
    rw [List.map_cons, List.sum_cons, List.length_cons, Nat.mul_add, Nat.mul_one]
    omega
theorem path_len {p : Str} (h : isPathS p = true) : p.length ≤ 26 := by
  unfold isPathS at h
  rw [Bool.and_eq_true, decide_eq_true_eq, List.all_eq_true] at h
  have e := split_len p (PySem.Str.ofString "/")
  have s := lenSum (Txt.split p (PySem.Str.ofString "/")) 8 fun x hx => by
    have := h.2 x hx
    unfold isNameS at this
    simp only [Bool.and_eq_true, decide_eq_true_eq] at this
    exact this.1.2
  have e1 : (PySem.Str.ofString "/").length = 1 := by decide
  rw [e1] at e
  omega
theorem good_len {fs : List File} (h : goodF fs = true) : fs.length ≤ 20 := by
  unfold goodF at h
  simp only [Bool.and_eq_true, decide_eq_true_eq] at h
  exact h.1.1
theorem good_row {fs : List File} (h : goodF fs = true) {f : File} (hf : f ∈ fs) : isPathS f.1 = true ∧ isLinesS f.2 = true ∧ ∀ o ∈ pathsOf fs, isInsideS f.1 o = false := by
  unfold goodF at h
  simp only [Bool.and_eq_true, List.all_eq_true] at h
  have h2 := h.2 f hf
  unfold goodRow at h2
  simp only [Bool.and_eq_true, Bool.not_eq_true', List.any_eq_false] at h2
  exact ⟨h2.1.1, h2.1.2, fun o ho => by have := h2.2 o ho; simpa using this⟩
theorem good_path {fs : List File} (h : goodF fs = true) : ∀ p ∈ pathsOf fs, p.length ≤ 1000 := fun p hp => by
  obtain ⟨f, hf, rfl⟩ := List.mem_map.mp hp
  have := path_len (good_row h hf).1
  omega
theorem lines_len {ls : List Str} (h : isLinesS ls = true) : ls.length ≤ 12 ∧ ∀ y ∈ ls, y.length ≤ 20 ∧ isPlainS y = true := by
  unfold isLinesS at h
  simp only [Bool.and_eq_true, decide_eq_true_eq, List.all_eq_true] at h
  refine ⟨h.1, fun y hy => ?_⟩
  have := h.2 y hy
  unfold isLineS at this
  simp only [Bool.and_eq_true, decide_eq_true_eq] at this
  exact this
theorem good_sane {fs : List File} (h : goodF fs = true) : Sane fs := by
  refine ⟨by have := good_len h; omega, fun f hf => ?_⟩
  obtain ⟨h1, h2, _⟩ := good_row h hf
  have := path_len h1
  have l := lines_len h2
  exact ⟨by omega, by omega, fun y hy => by have := (l.2 y hy).1; omega⟩
theorem at_mem {fs : List File} {p : Str} {ls : List Str} (h : at? fs p = some ls) : (p, ls) ∈ fs := by
  unfold at? at h
  obtain ⟨f, h1, h2⟩ := Option.map_eq_some_iff.mp h
  have e := List.find?_some h1
  have m := List.mem_of_find?_eq_some h1
  simp only [decide_eq_true_eq] at e
  subst e h2
  exact m
theorem plain_ok {z : Str} (h : isPlainS z = true) : okS z = true := okS_iff.mpr fun c hc => by
  have := List.all_eq_true.mp h c hc
  unfold plainC at this
  simp only [Bool.and_eq_true, decide_eq_true_eq] at this
  omega
/-- a good tree at t -/
structure TreeG (K : PySem.W.Frag) (H : Hp) (t : Addr) (fs : List File) : Prop where
  at_ : TreeAt K H t fs
  good : goodF fs = true
theorem TreeG.kp {K : PySem.W.Frag} {H H' : Hp} {t : Addr} {fs : List File} (h : TreeG K H t fs) (e : Kp [] H H') : TreeG K H' t fs := ⟨h.at_.kp e, h.good⟩
theorem TreeG.ins {K : PySem.W.Frag} {H : Hp} {t : Addr} {fs : List File} (h : TreeG K H t fs) : ∃ dx d, H t = some (.ins (He.ga K "Tree") dx [("_files", .ref d)]) := by
  obtain ⟨⟨dx, d, _, hx, _⟩, _⟩ := h
  exact ⟨dx, d, hx⟩
theorem c_recvT {K : PySem.W.Frag} {H : Hp} {t : Addr} {fs : List File} {m : Str} {R : Hp → Prop} (h : TreeG K H t fs) (hm : ([("_files", V.non)] : List (Str × V)).lookup m = none) (q : R H) : RecvK K "Tree" m (.ref t) H R := by
  obtain ⟨dx, d, hx⟩ := h.ins
  refine c_recv hx ?_ q
  simp only [List.lookup] at hm ⊢
  split at hm
  · cases hm
  · rename_i hz; rfl
theorem ded_snoc (xs : List Str) (x : Str) : ded (xs ++ [x]) = if x ∈ ded xs then ded xs else ded xs ++ [x] := by
  have e : ded (xs ++ [x]) = stepT (ded xs) x := by show (xs ++ [x]).foldl stepT [] = _; rw [List.foldl_append]; rfl
  rw [e]
  unfold stepT
  by_cases h : x ∈ ded xs
  · rw [if_pos h, if_pos (List.any_eq_true.mpr ⟨x, h, by simp⟩)]
  · rw [if_neg h, if_neg (fun hz => by obtain ⟨y, hy, e⟩ := List.any_eq_true.mp hz; exact h ((beq_iff_eq.mp e) ▸ hy))]
section
variable {P : Program} {w : World} {K : PySem.W.Frag} {mg : Str → Option Value} {base : Heap}
theorem dtNONE (T : TX K mg) (H : Hp) : Dt K H (.ref (He.ga K "NONE")) (wordD "none") := Dt.of (T.cst 1 rfl H) rfl
theorem dtDONE (T : TX K mg) (H : Hp) : Dt K H (.ref (He.ga K "DONE")) (wordD "done") := Dt.of (T.cst 0 rfl H) rfl
theorem atQUESTIONS (T : TX K mg) (H : Hp) : SqT K H (He.ga K "QUESTIONS") ((["read", "kind", "list", "find", "count"] : List Str).map V.str) := strsD_at (Dt.of (T.cst 2 rfl H) rfl)
def spIsQ (K : PySem.W.Frag) : Sp := fun vs H Q _ => ∃ (a : Addr) (x : Action), vs = [.ref a] ∧ ActAt K H a x ∧ Q (.bl x.isQ) H
theorem sc_is_question : FnScope ["action"] ["action"] (defScope s_is_question) := ⟨rfl, rfl, rfl, by decide +kernel, rfl, by decide +kernel, by decide +kernel⟩
theorem bn_is_question : BindN "is_question" s_is_question ["action"] := fun _ _ _ _ _ _ us hl => match us, hl with | [_], _ => rfl
theorem b_is_question (T : TX K mg) : Body P w K mg base "is_question" s_is_question ["action"] 1 (spIsQ K) := by
  intro cdv A outer s H vs Q E h X hr
  obtain ⟨a, x, rfl, ha, q⟩ := h
  refine ⟨_, (pss_one (ps_ret (pe_cmpR (op_inU (K := K)) (pe_ix (ix_U (K := K)) (pv 0) pe_int (fun _ _ => rfl)) (pe_gCon (T.glo 22)) rfl))), ?_⟩
  have hq := atQUESTIONS T H
  cases x <;> (first | obtain ⟨l, m, ha, _, _⟩ := ha | obtain ⟨l, ha, _⟩ := ha | skip) <;>
    (walk_at "st"; refine c_inSs (.inr hq) ?_; first | exact q | (refine cast (congrArg (fun b => Q (.bl b) H) ?_) q; decide +kernel))
theorem D_is_question (T : TX K mg) : DefAt P w K mg base CX0 "is_question" 2 ["action"] (spIsQ K) :=
  def_of T 9 23 sc_is_question bn_is_question (by walk_at "len") (b_is_question T)
def placesF (xs ys : List Str) : List Nat := (List.range ((xs.length : Int) - ys.length + 1).toNat).filter fun i => decide (cutL xs (some ((i : Nat) : Int)) (some ((i : Nat) + (ys.length : Int))) = ys)
def spPlaces (K : PySem.W.Frag) : Sp := fun vs H Q _ => ∃ (a b : Addr) (xs ys : List Str), vs = [.ref a, .ref b] ∧ SqT K H a (xs.map V.str) ∧ SqT K H b (ys.map V.str) ∧ (∀ y ∈ xs, okS y = true) ∧ (∀ y ∈ ys, okS y = true) ∧ xs.length ≤ 1000 ∧ ys.length ≤ 1000 ∧
  ∀ p H', H p = none → Kp [] H H' → H' p = some (.lst ((placesF xs ys).map fun i => V.int (i : Nat))) → Q (.ref p) H'
theorem sc_places_of : FnScope ["lines", "part", "many", "at"] ["lines", "part"] (defScope s_places_of) := ⟨rfl, rfl, rfl, by decide +kernel, rfl, by decide +kernel, by decide +kernel⟩
theorem bn_places_of : BindN "places_of" s_places_of ["lines", "part"] := fun _ _ _ _ _ _ us hl => match us, hl with | [_, _], _ => rfl
theorem b_places_of (T : TX K mg) : Body P w K mg base "places_of" s_places_of ["lines", "part", "many", "at"] 1 (spPlaces K) := by
  intro cdv A outer s H vs Q E h X hr
  obtain ⟨a, b, xs, ys, rfl, ha, hb, ox, oy, lx, ly, q⟩ := h
  refine ⟨_, (pss_cons (ps_set (i := 2) sc_places_of.nd rfl (Or.inr rfl) (pe_callB (cr_len (K := K)) rfl (T.free 2) PySem.boot_len (pa_cons (pv 1) pa_nil))) (pss_one (ps_ret (pe_lc (own := [("at", 3)]) rfl sc_places_of.nd (pi_range1 rfl (T.free 27) (pa_cons (pe_op (op_addU (K := K)) (pe_op op_subU (pe_callB (cr_len (K := K)) rfl (T.free 2) PySem.boot_len (pa_cons (pv 0) pa_nil)) (pv 2)) pe_int) pa_nil)) (blkOk_by (N := ["lines", "part", "many", "at"]) (sc := defScope s_places_of) (by decide +kernel)) (fun _ _ _ _ _ => (pg_name (i := 3) sc_places_of.nd rfl (Or.inl rfl))) (fun _ _ _ _ _ => (pts_one (pt_cmpR (op_eqU (K := K) hr.units) (pe_callTy (cr_tuple (K := K)) rfl (T.free 28) (by decide +kernel) (pa_cons (pe_slice (sl_U (K := K)) (pv 0) (po_some (pv 3)) (po_some (pe_op (op_addU (K := K)) (pv 3) (pv 2)))) pa_nil)) (pe_callTy (cr_tuple (K := K)) rfl (T.free 28) (by decide +kernel) (pa_cons (pv 1) pa_nil)) (nomark _)))) (fun _ _ _ _ _ => (pv 3)))))), ?_⟩
  walk_at "st"
  rw [List.length_map, List.length_map]
  refine c_r1C (by omega) ?_
  refine lcQ_fil (itn_r (lo := 0)) (fun i => V.int (i : Nat)) (fun i => decide (cutL xs (some ((i : Nat) : Int)) (some ((i : Nat) + (ys.length : Int))) = ys)) (by omega) (fun _ _ => trivial) (fun i x H' H'' R S hi e y k1 k2 => ?_) (fun Dl H1 hD e hacc => ?_)
  · obtain ⟨rfl, rfl⟩ := y
    walk_at "st"
    refine ⟨rfl, ?_⟩
    walk_at "st"
    refine c_slT (SqT.kp e ha) fun p H2 e2 hp => ?_
    walk_at "st"
    refine c_tupleT hp ?_
    walk_at "st"
    refine c_tupleT (SqT.kp (e.trans e2) hb) ?_
    walk_at "st"
    rw [cutL_map] at hp
    refine c_eqTS hp (SqT.kp (e.trans e2) hb) (fun y hy => ox y ?_) oy ?_
    · unfold cutL at hy
      exact List.mem_of_mem_drop (List.mem_of_mem_take hy)
    walk_at "st"
    rw [Int.zero_add]
    refine c_ite (fun g => ?_) (fun g => ?_)
    · walk_at "st"
      exact k1 (decide_eq_true g) _ e2
    · exact k2 (decide_eq_false g) _ e2
  · exact q Dl H1 hD e hacc
theorem D_places_of (T : TX K mg) : DefAt P w K mg base CX0 "places_of" 2 ["lines", "part"] (spPlaces K) :=
  def_of T 12 29 sc_places_of bn_places_of (by walk_at "len") (b_places_of T)
end
end K36



namespace K36
open PySem L2 Sa
theorem sub_len (x : Str) (i j : Nat) : (PySem.Builtin.Str.strSub x i j).length ≤ x.length := by
  show (x.cps.extract i j).size ≤ x.cps.size
  rw [Array.size_extract]
  omega
theorem part_len (x y : Str) : (Txt.partition x y).1.length ≤ x.length ∧ (Txt.partition x y).2.1.length ≤ y.length := by
  rcases PyProof.Rows.partition_whole x y with ⟨e, _⟩ | ⟨i, e, _⟩
  · rw [e]; exact ⟨Nat.le_refl _, Nat.zero_le _⟩
  · rw [e]; exact ⟨sub_len _ _ _, Nat.le_refl _⟩
theorem inside_small {fs : List File} (h : goodF fs = true) (z : Str) : (insideF fs z).length ≤ 20 ∧ ∀ p ∈ insideF fs z, p.length ≤ 1000 ∧ p ∈ pathsOf fs := by
  refine ⟨?_, fun p hp => ?_⟩
  · have := List.length_filter_le (fun y => isInsideS y z) (pathsOf fs)
    have h2 := good_len h
    have h3 : (pathsOf fs).length = fs.length := List.length_map ..
    unfold insideF
    omega
  · have := (List.mem_filter.mp hp).1
    exact ⟨good_path h p this, this⟩
theorem forN_dedlen (xs : List Str) : (ded xs).length ≤ xs.length := ded_le xs
section
variable {P : Program} {w : World} {K : PySem.W.Frag} {mg : Str → Option Value} {base : Heap}
def spNames (K : PySem.W.Frag) : Sp := fun vs H Q _ => ∃ (t : Addr) (z : Str) (fs : List File), vs = [.ref t, .str z] ∧ TreeG K H t fs ∧ z.length ≤ 1000 ∧ ∀ p H', Kp [] H H' → SqT K H' p ((namesF fs z).map V.str) → Q (.ref p) H'
theorem sc__names : FnScope ["tree", "place", "start", "found", "path", "name", "gap", "_"] ["tree", "place"] (defScope s__names) := ⟨rfl, rfl, rfl, by decide +kernel, rfl, by decide +kernel, by decide +kernel⟩
theorem bn__names : BindN "_names" s__names ["tree", "place"] := fun _ _ _ _ _ _ us hl => match us, hl with | [_, _], _ => rfl
theorem b__names (T : TX K mg) : Body P w K mg base "_names" s__names ["tree", "place", "start", "found", "path", "name", "gap", "_"] 3 (spNames K) := by
  intro cdv A outer s H vs Q E h X hr
  obtain ⟨t, z, fs, rfl, ht, hz, q⟩ := h
  have C_Tree := C_Tree T; have M_Tree_paths := M_Tree_paths (P := P) (w := w) (base := base) T
  refine ⟨_, (Evl.pss_cut (ps_set (i := 2) sc__names.nd rfl (Or.inl rfl) (pe_ifExp (pt_cmpR (op_eqU (K := K) hr.units) (pv 1) pe_str (nomark _)) pe_int (pe_op (op_addU (K := K)) (pe_callB (cr_len (K := K)) rfl (T.free 2) PySem.boot_len (pa_cons (pv 1) pa_nil)) pe_int))) (pss_cons (ps_set (i := 3) sc__names.nd rfl (Or.inl rfl) (pe_lst pa_nil)) (pss_cons (ps_for PassesOwn.never rfl (pi_tupU (K := K) (pe_methS1 M_Tree_paths C_Tree hr at0 (pv 0) (pa_cons (pv 1) pa_nil))) (pg_name (i := 4) sc__names.nd rfl (Or.inl rfl)) (pss_cons (ps_asg (pe_partitionU (pe_slice (sl_U (K := K)) (pv 4) (po_some (pv 2)) po_none) pe_str) (pg_tupU (K := K) (n := 3) rfl (pgs_cons (pg_name (i := 5) sc__names.nd rfl (Or.inl rfl)) (pgs_cons (pg_name (i := 6) sc__names.nd rfl (Or.inl rfl)) (pgs_cons (pg_name (i := 7) sc__names.nd rfl (Or.inl rfl)) pgs_nil))))) (pss_one (ps_if (pt_cmpR (op_notInU (K := K)) (pe_op (op_addU (K := K)) (pv 5) (pv 6)) (pv 3) rfl) (pss_one (ps_expr (pe_appendU (K := K) (pv 3) (pe_op (op_addU (K := K)) (pv 5) (pv 6))))) pss_nil)))) (pss_one (ps_ret (pe_callTy (cr_tuple (K := K)) rfl (T.free 28) (by decide +kernel) (pa_cons (pe_callB cr_sortedS rfl (T.free 30) (by decide +kernel) (pa_cons (pv 3) pa_nil)) pa_nil))))))), ?_⟩
  walk_at "st"
  refine c_cut (fun σ' H' => σ' = [some (.ref t), some (.str z), some (.int (startN z)), none, none, none, none, none] ∧ H = H') ?_ ?_
  · walk_at "st"
    refine c_ite (fun g => ?_) (fun g => ?_)
    · walk_at "st"
      exact ⟨by unfold startN; rw [decide_eq_true g]; rfl, rfl⟩
    · walk_at "st"
      exact ⟨by unfold startN; rw [decide_eq_false g]; rfl, rfl⟩
  rintro _ _ ⟨rfl, rfl⟩
  walk_at "st"
  walk_at "nw"
  intro l H1 N
  walk_at "st"
  refine c_recvT (ht.kp N.kp) rfl ?_
  walk_at "st"
  refine ⟨t, z, fs, rfl, (ht.kp N.kp).at_, by have := good_len ht.good; omega, good_path ht.good, hz, fun pp H2 e2 hpp => ?_⟩
  walk_at "st"
  obtain ⟨il, ip⟩ := inside_small ht.good z
  refine forQ (itn_t (ys := insideF fs z) (u := V.str)) (fun i σ H' => ∃ v4 v5 v6 v7, σ = [some (.ref t), some (.str z), some (.int (startN z)), some (.ref l), v4, v5, v6, v7] ∧ Kp [] H H' ∧ SqT K H' pp ((insideF fs z).map V.str) ∧
    H' l = some (.lst ((ded (((insideF fs z).take i).map (firstN z))).map V.str))) ⟨_, _, _, _, rfl, N.kp.trans e2, hpp, e2.at0 N.at_⟩ (by rintro i σ H' ⟨_, _, _, _, _, _, h, _⟩; exact h) ?_ ?_
  · rintro i x σ H3 _ hi ⟨v4, v5, v6, v7, rfl, e3, hp3, hl3⟩ ⟨rfl, y, hy, rfl⟩
    obtain ⟨yl, _⟩ := ip y (List.mem_of_getElem? hy)
    have cl := cutS_len y (some (startN z)) none
    have pl := part_len (cutS y (some (startN z)) none) (PySem.Str.ofString "/")
    have e1 : (PySem.Str.ofString "/").length = 1 := by decide
    have et : ((insideF fs z).take (i + 1)).map (firstN z) = ((insideF fs z).take i).map (firstN z) ++ [firstN z y] := by rw [take_succ' hy, List.map_append]; rfl
    have dl : (ded (((insideF fs z).take i).map (firstN z))).length ≤ 20 := by
      have := ded_le (((insideF fs z).take i).map (firstN z))
      rw [List.length_map, List.length_take] at this
      omega
    walk_at "st"
    refine c_slS (by rw [sizeLine_eq]; omega) ?_
    walk_at "st"
    refine c_parti (s := cutS y (some (startN z)) none) (z := PySem.Str.ofString "/") (by decide) (by rw [sizeLine_eq]; omega) fun q4 H4 N4 => ?_
    walk_at "st"
    refine c_addS (by rw [sizeLine_eq]; omega) ?_
    walk_at "st"
    refine c_notInSs (.inl (SqL.of (N4.keep hl3))) ?_
    walk_at "st"
    refine c_iteN (fun g => ?_) (fun g => ?_)
    · walk_at "st"
      refine c_addS (by rw [sizeLine_eq]; omega) ?_
      refine ⟨l, _, _, rfl, rfl, N4.keep hl3, by rw [sizeLine_eq, List.length_map]; omega, ?_⟩
      walk_at "st"
      have n0 : H l = none := N.fr
      refine ⟨_, _, _, _, rfl, (e3.trans N4.kp).fresh_mut n0, SqT.kt (Kt.upd1 (NoT.lst (N4.keep hl3))) (SqT.kp N4.kp hp3), ?_⟩
      have g : firstN z y ∉ ded (((insideF fs z).take i).map (firstN z)) := g
      rw [upd_same, et, ded_snoc, if_neg g, List.map_append]
      rfl
    · walk_at "st"
      refine ⟨_, _, _, _, rfl, e3.trans N4.kp, SqT.kp N4.kp hp3, ?_⟩
      have g : firstN z y ∈ ded (((insideF fs z).take i).map (firstN z)) := g
      rw [et, ded_snoc, if_pos g]
      exact N4.keep hl3
  · rintro σ H3 ⟨v4, v5, v6, v7, rfl, e3, hp3, hl3⟩
    rw [List.take_length] at hl3
    have dl := ded_le ((insideF fs z).map (firstN z))
    rw [List.length_map] at dl
    walk_at "st"
    refine c_sortedS (SqL.of hl3) (by omega) fun p4 H4 N4 => ?_
    walk_at "st"
    refine c_tupleL (SqL.of N4.at_) fun p5 H5 N5 => ?_
    exact q p5 H5 ((e3.trans N4.kp).trans N5.kp) (SqT.of N5.at_)
theorem D__names (T : TX K mg) : DefAt P w K mg base CX0 "_names" 4 ["tree", "place"] (spNames K) :=
  def_of T 13 31 sc__names bn__names (by walk_at "len") (b__names T)
def spRows (K : PySem.W.Frag) : Sp := fun vs H Q _ => ∃ (t : Addr) (z w : Str) (fs : List File), vs = [.ref t, .str z, .str w] ∧ TreeG K H t fs ∧ z.length ≤ 1000 ∧ ∀ p H', Kp [] H H' → Dt K H' (.ref p) (.tuple (foundF fs z w)) → Q (.ref p) H'
theorem foundPs_mem {fs : List File} {z p : Str} (h : p ∈ foundPs fs z) : ∃ ls, at? fs p = some ls := by
  have h2 := (sortS_perm _).subset h
  rcases List.mem_append.mp h2 with h3 | h3
  · have := (List.mem_filter.mp h3).1
    obtain ⟨f, hf, e⟩ := List.mem_map.mp this
    cases q : at? fs p with
    | some ls => exact ⟨ls, rfl⟩
    | none =>
      unfold at? at q
      rw [Option.map_eq_none_iff, List.find?_eq_none] at q
      have := q f hf
      rw [← e] at this
      simp at this
  · by_cases hz : (at? fs z).isSome = true
    · rw [if_pos hz] at h3
      rw [List.mem_singleton.mp h3]
      exact Option.isSome_iff_exists.mp hz
    · rw [if_neg hz] at h3; cases h3
theorem sc__rows : FnScope ["tree", "place", "word", "paths", "found", "path", "at", "line"] ["tree", "place", "word"] (defScope s__rows) := ⟨rfl, rfl, rfl, by decide +kernel, rfl, by decide +kernel, by decide +kernel⟩
theorem bn__rows : BindN "_rows" s__rows ["tree", "place", "word"] := fun _ _ _ _ _ _ us hl => match us, hl with | [_, _, _], _ => rfl
theorem b__rows (T : TX K mg) : Body P w K mg base "_rows" s__rows ["tree", "place", "word", "paths", "found", "path", "at", "line"] 3 (spRows K) := by
  intro cdv A outer s H vs Q E h X hr
  obtain ⟨t, z, wd, fs, rfl, ht, hz, q⟩ := h
  have C_Tree := C_Tree T; have M_Tree_lines := M_Tree_lines (P := P) (w := w) (base := base) T; have M_Tree_paths := M_Tree_paths (P := P) (w := w) (base := base) T
  refine ⟨_, (pss_cons (ps_set (i := 3) sc__rows.nd rfl (Or.inl rfl) (pe_callTy (cr_list (K := K)) rfl (T.free 33) (by decide +kernel) (pa_cons (pe_methS1 M_Tree_paths C_Tree hr at0 (pv 0) (pa_cons (pv 1) pa_nil)) pa_nil))) (Evl.pss_cut (ps_if (pt_cmpR op_isNotU (pe_methS1 M_Tree_lines C_Tree hr at0 (pv 0) (pa_cons (pv 1) pa_nil)) pe_non (nomark _)) (pss_one (ps_expr (pe_appendU (K := K) (pv 3) (pv 1)))) pss_nil) (pss_cons (ps_set (i := 4) sc__rows.nd rfl (Or.inl rfl) (pe_lst pa_nil)) (pss_cons (ps_for PassesOwn.never rfl (pi_listU (K := K) (pe_callB cr_sortedS rfl (T.free 30) (by decide +kernel) (pa_cons (pv 3) pa_nil))) (pg_name (i := 5) sc__rows.nd rfl (Or.inr rfl)) (pss_one (ps_expr (pe_extendU (K := K) (pv 4) (pe_lc (own := [("at", 6), ("line", 7)]) rfl sc__rows.nd (pi_enumT (K := K) rfl (T.free 32) (pa_cons (pe_methS1 M_Tree_lines C_Tree hr at0 (pv 0) (pa_cons (pv 5) pa_nil)) pa_nil)) (blkOk_by (N := ["tree", "place", "word", "paths", "found", "path", "at", "line"]) (sc := defScope s__rows) (by decide +kernel)) (fun _ _ _ _ _ => (pg_tupU (K := K) (n := 2) rfl (pgs_cons (pg_name (i := 6) sc__rows.nd rfl (Or.inl rfl)) (pgs_cons (pg_name (i := 7) sc__rows.nd rfl (Or.inl rfl)) pgs_nil)))) (fun _ _ _ _ _ => (pts_one (pt_cmpR (op_inU (K := K)) (pv 2) (pv 7) rfl))) (fun _ _ _ _ _ => (pe_tup (pa_cons (pv 5) (pa_cons (pv 6) pa_nil))))))))) (pss_one (ps_ret (pe_callTy (cr_tuple (K := K)) rfl (T.free 28) (by decide +kernel) (pa_cons (pv 4) pa_nil)))))))), ?_⟩
  walk_at "st"
  refine c_recvT ht rfl ?_
  walk_at "st"
  obtain ⟨il, ip⟩ := inside_small ht.good z
  refine ⟨t, z, fs, rfl, ht.at_, by have := good_len ht.good; omega, good_path ht.good, hz, fun pp H1 e1 hpp => ?_⟩
  walk_at "st"
  refine c_listT hpp fun l H2 N => ?_
  walk_at "st"
  have e2 := e1.trans N.kp
  have hl2 : H2 l = some (.lst ((insideF fs z).map V.str)) := N.at_
  refine c_cut (fun σ' H' => σ' = [some (.ref t), some (.str z), some (.str wd), some (.ref l), none, none, none, none] ∧ Kp [] H H' ∧ H' l = some (.lst ((insideF fs z ++ if (at? fs z).isSome then [z] else []).map V.str))) ?_ ?_
  · walk_at "st"
    refine c_recvT (ht.kp e2) rfl ?_
    walk_at "st"
    refine ⟨t, z, fs, rfl, (ht.kp e2).at_, fun g => ?_, fun ls la g hla => ?_⟩
    · walk_at "st"
      refine c_iteF (by rfl) ?_
      walk_at "st"
      refine ⟨rfl, e2, ?_⟩
      rw [g, hl2]
      show _ = some (HO.lst ((insideF fs z ++ if false = true then [z] else []).map V.str))
      rw [if_neg Bool.false_ne_true, List.append_nil]
    · walk_at "st"
      refine c_iteT (by rfl) ?_
      walk_at "st"
      have n0 : H l = none := free0 e1 N.fr
      refine ⟨rfl, e2.fresh_mut n0, ?_⟩
      rw [upd_same, g]
      show _ = some (HO.lst ((insideF fs z ++ if true = true then [z] else []).map V.str))
      rw [if_pos rfl, List.map_append]
      rfl
  rintro _ H3 ⟨rfl, e3, hl3⟩
  walk_at "st"
  walk_at "nw"
  intro fd H4 N4
  walk_at "st"
  have pl : (insideF fs z ++ if (at? fs z).isSome then [z] else []).length ≤ 21 := by
    rw [List.length_append]
    split
    · rw [List.length_singleton]; omega
    · rw [List.length_nil]; omega
  refine c_sortedS (SqL.of (N4.keep hl3)) (by omega) fun sp H5 N5 => ?_
  walk_at "st"
  have e5 := (e3.trans N4.kp).trans N5.kp
  have nfd : H fd = none := free0 e3 N4.fr
  refine forQ (itn_l (ys := foundPs fs z) (u := V.str)) (fun i σ H' => ∃ v5 v6 v7 ws, σ = [some (.ref t), some (.str z), some (.str wd), some (.ref l), some (.ref fd), v5, v6, v7] ∧ Kp [] H H' ∧ SqL K H' sp ((foundPs fs z).map V.str) ∧
    H' fd = some (.lst ws) ∧ DtAll K H' ws (((foundPs fs z).take i).flatMap fun p => rowsD p ((at? fs p).getD []) wd) ∧ ws.length ≤ 12 * i) ⟨_, _, _, [], rfl, e5, SqL.of N5.at_, N5.keep N4.at_, .nil, by simp⟩ (by rintro i σ H' ⟨_, _, _, _, _, _, h, _⟩; exact h) ?_ ?_
  · rintro i x σ H6 _ hi ⟨v5, v6, v7, ws, rfl, e6, hsp, hfd, hws, hwl⟩ ⟨rfl, p, hp, rfl⟩
    obtain ⟨ls, hls⟩ := foundPs_mem (List.mem_of_getElem? hp)
    have hll : ls.length ≤ 12 := (lines_len (good_row ht.good (at_mem hls)).2.1).1
    have il2 : i < 21 := by have := sortS_len (insideF fs z ++ if (at? fs z).isSome then [z] else []); unfold foundPs at hi; omega
    walk_at "st"
    refine c_recvT (ht.kp e6) rfl ?_
    walk_at "st"
    refine ⟨t, p, fs, rfl, (ht.kp e6).at_, fun g => by rw [g] at hls; (cases hls), fun ls' la g hla => ?_⟩
    obtain rfl : ls' = ls := by rw [g] at hls; exact Option.some.inj hls
    refine ⟨la, _, rfl, hla, ?_⟩
    refine lcQ_dt (K := K) (itn_et (ys := ls') (u := V.str)) (fun i => .tuple [.str p, .int (i : Nat)]) (fun i => occS (ls'.getD i Str.empty) wd) (by omega) (fun H' e => SqT.kp e hla) (fun j x H' H'' R S hj e y k1 k2 => ?_) (fun D ws2 H7 hD e7 hacc hws2 => ?_)
    · obtain ⟨T1, y, rfl, N1, hy⟩ := y
      walk_at "st"
      refine ⟨rfl, ?_⟩
      walk_at "st"
      refine c_inT ?_
      walk_at "st"
      have ey : ls'.getD j Str.empty = y := getD_of hy
      refine c_iteB (fun g => ?_) (fun g => ?_)
      · walk_at "st"
        walk_at "nw"
        intro q4 H4 N4
        exact k1 (by rw [ey]; exact g) _ _ N4.kp (.tup (SqT.of N4.at_) (.cons (.str p) (.cons (.int _) .nil)))
      · exact k2 (by rw [ey]; exact g) _ Kp.refl
    have w2 : ws2.length ≤ 12 := by
      rw [dta_len hws2, List.length_map]
      have := List.length_filter_le (fun i => occS (ls'.getD i Str.empty) wd) (List.range ls'.length)
      rw [List.length_range] at this
      omega
    have hfd7 := e7.at0 hfd
    refine ⟨fd, D, ws, ws2, rfl, rfl, hfd7, hacc, by rw [sizeLine_eq]; omega, ?_⟩
    walk_at "st"
    have kt : Kt H7 (upd H7 fd (.lst (ws ++ ws2))) := Kt.upd1 (NoT.lst hfd7)
    have nsp : sp ≠ fd := (ne_of_none N4.at_ N5.fr).symm
    refine ⟨_, _, _, ws ++ ws2, rfl, (e6.trans e7).fresh_mut nfd, SqL.other nsp (SqL.kp e7 hsp), upd_same, ?_, by rw [List.length_append]; omega⟩
    rw [take_succ' hp, List.flatMap_append]
    refine dta_app (DtAll.kt (e7.kt.trans kt) hws) ?_
    have := DtAll.kt kt hws2
    show DtAll _ _ _ (rowsD p ((at? fs p).getD []) wd ++ [])
    rw [hls, List.append_nil]
    exact this
  · rintro σ H6 ⟨v5, v6, v7, ws, rfl, e6, hsp, hfd, hws, hwl⟩
    rw [List.take_length] at hws
    walk_at "st"
    refine c_tupleL (SqL.of hfd) fun p5 H7 N7 => ?_
    exact q p5 H7 (e6.trans N7.kp) (.tup (SqT.of N7.at_) (DtAll.kp hws N7.kp))
theorem D__rows (T : TX K mg) : DefAt P w K mg base CX0 "_rows" 4 ["tree", "place", "word"] (spRows K) :=
  def_of T 14 34 sc__rows bn__rows (by walk_at "len") (b__rows T)
def spAsk (K : PySem.W.Frag) : Sp := fun vs H Q _ => ∃ (t a : Addr) (x : Action) (fs : List File), vs = [.ref t, .ref a] ∧ TreeG K H t fs ∧ ActAt K H a x ∧ x.isQ = true ∧ x.sane ∧ ∀ v H', Kp [] H H' → Dt K H' v (askF fs x) → Q v H'
theorem two_of (u v : V) (r : List V) : cutL (u :: v :: r) none (some 2) = [u, v] := by
  unfold cutL
  have e1 : HT.sIx (u :: v :: r).length 0 none = 0 := rfl
  rw [e1, sIx_of (by decide), List.drop_zero, Nat.sub_zero]
  have e2 : min (2 : Int).toNat (u :: v :: r).length = 2 := by simp only [List.length_cons]; omega
  rw [e2]
  rfl
theorem isFile_non (o : Option (List Str)) : True := trivial
theorem sc__ask : FnScope ["tree", "action", "word", "place", "lines", "is_file"] ["tree", "action"] (defScope s__ask) := ⟨rfl, rfl, rfl, by decide +kernel, rfl, by decide +kernel, by decide +kernel⟩
theorem bn__ask : BindN "_ask" s__ask ["tree", "action"] := fun _ _ _ _ _ _ us hl => match us, hl with | [_, _], _ => rfl
theorem b__ask (T : TX K mg) : Body P w K mg base "_ask" s__ask ["tree", "action", "word", "place", "lines", "is_file"] 4 (spAsk K) := by
  intro cdv A outer s H vs Q E h X hr
  obtain ⟨t, a, x, fs, rfl, ht, ha, hq, hs, q⟩ := h
  have C_Tree := C_Tree T; have D__names := D__names (P := P) (w := w) (base := base) T; have D__rows := D__rows (P := P) (w := w) (base := base) T; have M_Tree_is_folder := M_Tree_is_folder (P := P) (w := w) (base := base) T; have M_Tree_lines := M_Tree_lines (P := P) (w := w) (base := base) T; have M_Tree_paths := M_Tree_paths (P := P) (w := w) (base := base) T
  refine ⟨_, (pss_cons (ps_asg (pe_slice (sl_U (K := K)) (pv 1) po_none (po_some pe_int)) (pg_tupU (K := K) (n := 2) rfl (pgs_cons (pg_name (i := 2) sc__ask.nd rfl (Or.inl rfl)) (pgs_cons (pg_name (i := 3) sc__ask.nd rfl (Or.inl rfl)) pgs_nil)))) (pss_cons (ps_if (pt_cmpR (op_eqU (K := K) hr.units) (pv 2) pe_str (nomark _)) (pss_cons (ps_set (i := 4) sc__ask.nd rfl (Or.inl rfl) (pe_methS1 M_Tree_lines C_Tree hr at0 (pv 0) (pa_cons (pv 3) pa_nil))) (pss_one (ps_ret (pe_ifExp (pt_cmpR op_isU (pv 4) pe_non (nomark _)) (pe_gCon (T.glo 35)) (pe_tup (pa_cons pe_str (pa_cons (pv 4) pa_nil))))))) pss_nil) (pss_cons (ps_set (i := 5) sc__ask.nd rfl (Or.inl rfl) (pe_cmpR op_isNotU (pe_methS1 M_Tree_lines C_Tree hr at0 (pv 0) (pa_cons (pv 3) pa_nil)) pe_non (nomark _))) (pss_cons (ps_if (PW.pt (pw_and (pt_cmpR (op_eqU (K := K) hr.units) (pv 2) pe_str (nomark _)) (pw_and1 (pt_tru (K := K) (pv 5))))) (pss_one (ps_ret (pe_tup (pa_cons pe_str pa_nil)))) pss_nil) (pss_cons (ps_if (PW.pt (pw_and (pt_cmpR (op_eqU (K := K) hr.units) (pv 2) pe_str (nomark _)) (pw_and1 (pt_tru (K := K) (pv 5))))) (pss_one (ps_ret (pe_tup (pa_cons pe_str (pa_cons (pe_callA D__rows hr pass0 (pa_cons (pv 0) (pa_cons (pv 3) (pa_cons (pe_ix (ix_U (K := K)) (pv 1) pe_int (fun _ _ => rfl)) pa_nil)))) pa_nil))))) pss_nil) (pss_cons (ps_if (pt_not (pt_tru (K := K) (pe_methS1 M_Tree_is_folder C_Tree hr at0 (pv 0) (pa_cons (pv 3) pa_nil)))) (pss_one (ps_ret (pe_gCon (T.glo 35)))) pss_nil) (pss_cons (ps_if (pt_cmpR (op_eqU (K := K) hr.units) (pv 2) pe_str (nomark _)) (pss_one (ps_ret (pe_tup (pa_cons pe_str pa_nil)))) pss_nil) (pss_cons (ps_if (pt_cmpR (op_eqU (K := K) hr.units) (pv 2) pe_str (nomark _)) (pss_one (ps_ret (pe_tup (pa_cons pe_str (pa_cons (pe_callA D__rows hr pass0 (pa_cons (pv 0) (pa_cons (pv 3) (pa_cons (pe_ix (ix_U (K := K)) (pv 1) pe_int (fun _ _ => rfl)) pa_nil)))) pa_nil))))) pss_nil) (pss_cons (ps_if (pt_cmpR (op_eqU (K := K) hr.units) (pv 2) pe_str (nomark _)) (pss_one (ps_ret (pe_tup (pa_cons pe_str (pa_cons (pe_callB (cr_len (K := K)) rfl (T.free 2) PySem.boot_len (pa_cons (pe_methS1 M_Tree_paths C_Tree hr at0 (pv 0) (pa_cons (pv 3) pa_nil)) pa_nil)) pa_nil))))) pss_nil) (pss_one (ps_ret (pe_tup (pa_cons pe_str (pa_cons (pe_callA D__names hr pass0 (pa_cons (pv 0) (pa_cons (pv 3) pa_nil))) pa_nil)))))))))))))), ?_⟩
  have lk : ∀ {H1 : Hp} {z : Str} {Q1 : VK}, Kp [] H H1 → (at? fs z = none → Q1 .non H1) → (∀ ls l, at? fs z = some ls → SqT K H1 l (ls.map V.str) → Q1 (.ref l) H1) → spTLines K [.ref t, .str z] H1 Q1 E0 := fun e h1 h2 => ⟨t, _, fs, rfl, (ht.kp e).at_, h1, h2⟩
  have fo : ∀ {H1 : Hp} {z : Str} {Q1 : VK}, Kp [] H H1 → z.length ≤ 1000 → (∀ H', Kp [] H H' → Q1 (.bl (isFolderF fs z)) H') → spTFolder K [.ref t, .str z] H1 Q1 E0 := fun e hz h => ⟨t, _, fs, rfl, (ht.kp e).at_, by have := good_len ht.good; omega, good_path ht.good, hz, fun H' e' => h H' (e.trans e')⟩
  have NO : ∀ H', Kp [] H H' → askF fs x = wordD "none" → Q (.ref (He.ga K "NONE")) H' := fun H' e h => q _ H' e (by rw [h]; exact dtNONE T H')
  cases x with
  | read p =>
    walk_at "st"
    refine c_slT ha fun p1 H1 e1 hp1 => ?_
    rw [two_of] at hp1
    walk_at "dc"
    refine c_recvT (ht.kp e1) rfl ?_
    walk_at "dc"
    refine lk e1 (fun g => ?_) (fun ls l g hl => ?_)
    · walk_at "dc"
      exact NO _ e1 (by simp only [askF, g])
    · walk_at "dc"
      walk_at "nw"
      intro q3 H3 N3
      refine q _ H3 (e1.trans N3.kp) ?_
      simp only [askF, g]
      exact .tup (SqT.of N3.at_) (.cons (.str _) (.cons (dt_strs (SqT.kp N3.kp hl)) .nil))
  | kind z =>
    have hz : z.length ≤ 1000 := hs
    walk_at "st"
    refine c_slT ha fun p1 H1 e1 hp1 => ?_
    rw [two_of] at hp1
    walk_at "dc"
    refine c_recvT (ht.kp e1) rfl ?_
    walk_at "dc"
    refine lk e1 (fun g => ?_) (fun ls l g hl => ?_)
    · walk_at "dc"
      refine c_recvT (ht.kp e1) rfl ?_
      walk_at "dc"
      refine fo e1 hz fun H2 e2 => ?_
      walk_at "dc"
      refine c_iteNB (fun g2 => ?_) (fun g2 => ?_)
      · walk_at "dc"
        exact NO _ e2 (by simp only [askF, g, g2]; rfl)
      · walk_at "dc"
        walk_at "nw"
        intro q3 H3 N3
        refine q _ H3 (e2.trans N3.kp) ?_
        simp only [askF, g, g2]
        exact .tup (SqT.of N3.at_) (.cons (.str _) .nil)
    · walk_at "dc"
      walk_at "nw"
      intro q3 H3 N3
      refine q _ H3 (e1.trans N3.kp) ?_
      simp only [askF, g]
      exact .tup (SqT.of N3.at_) (.cons (.str _) .nil)
  | list z =>
    have hz : z.length ≤ 1000 := hs
    walk_at "st"
    refine c_slT ha fun p1 H1 e1 hp1 => ?_
    rw [two_of] at hp1
    walk_at "dc"
    refine c_recvT (ht.kp e1) rfl ?_
    walk_at "dc"
    have fin : ∀ v5 : V, ∀ Q2 : St → Hp → Prop, True := fun _ _ => trivial
    refine lk e1 (fun g => ?_) (fun ls l g hl => ?_) <;>
    · walk_at "dc"
      refine c_recvT (ht.kp e1) rfl ?_
      walk_at "dc"
      refine fo e1 hz fun H2 e2 => ?_
      walk_at "dc"
      refine c_iteNB (fun g2 => ?_) (fun g2 => ?_)
      · walk_at "dc"
        exact NO _ e2 (by simp only [askF, g2]; rfl)
      · walk_at "dc"
        refine ⟨t, z, fs, rfl, ht.kp e2, hz, fun p3 H3 e3 hp3 => ?_⟩
        walk_at "dc"
        walk_at "nw"
        intro q4 H4 N4
        refine q _ H4 ((e2.trans e3).trans N4.kp) ?_
        simp only [askF, g2]
        exact .tup (SqT.of N4.at_) (.cons (.str _) (.cons (dt_strs (SqT.kp N4.kp hp3)) .nil))
  | count z =>
    have hz : z.length ≤ 1000 := hs
    walk_at "st"
    refine c_slT ha fun p1 H1 e1 hp1 => ?_
    rw [two_of] at hp1
    walk_at "dc"
    refine c_recvT (ht.kp e1) rfl ?_
    walk_at "dc"
    refine lk e1 (fun g => ?_) (fun ls l g hl => ?_) <;>
    · walk_at "dc"
      refine c_recvT (ht.kp e1) rfl ?_
      walk_at "dc"
      refine fo e1 hz fun H2 e2 => ?_
      walk_at "dc"
      refine c_iteNB (fun g2 => ?_) (fun g2 => ?_)
      · walk_at "dc"
        exact NO _ e2 (by simp only [askF, g2]; rfl)
      · walk_at "dc"
        refine c_recvT (ht.kp e2) rfl ?_
        walk_at "dc"
        refine ⟨t, z, fs, rfl, (ht.kp e2).at_, by have := good_len ht.good; omega, good_path ht.good, hz, fun p3 H3 e3 hp3 => ?_⟩
        walk_at "dc"
        walk_at "nw"
        intro q4 H4 N4
        refine q _ H4 ((e2.trans e3).trans N4.kp) ?_
        simp only [askF, g2]
        refine .tup (SqT.of N4.at_) (.cons (.str _) (.cons ?_ .nil))
        rw [List.length_map]
        exact .int _
  | find z wd =>
    have hz : z.length ≤ 1000 := hs.1
    walk_at "st"
    refine c_slT ha fun p1 H1 e1 hp1 => ?_
    rw [two_of] at hp1
    walk_at "dc"
    refine c_recvT (ht.kp e1) rfl ?_
    walk_at "dc"
    refine lk e1 (fun g => ?_) (fun ls l g hl => ?_)
    · walk_at "dc"
      refine c_recvT (ht.kp e1) rfl ?_
      walk_at "dc"
      refine fo e1 hz fun H2 e2 => ?_
      walk_at "dc"
      refine c_iteNB (fun g2 => ?_) (fun g2 => ?_)
      · walk_at "dc"
        exact NO _ e2 (by simp only [askF, g, g2]; rfl)
      · walk_at "dc"
        refine c_ixT (SqT.kp e2 ha) rfl ?_
        walk_at "dc"
        refine ⟨t, z, wd, fs, rfl, ht.kp e2, hz, fun p3 H3 e3 hp3 => ?_⟩
        walk_at "dc"
        walk_at "nw"
        intro q4 H4 N4
        refine q _ H4 ((e2.trans e3).trans N4.kp) ?_
        simp only [askF, g, g2]
        exact .tup (SqT.of N4.at_) (.cons (.str _) (.cons (Dt.kp hp3 N4.kp) .nil))
    · walk_at "dc"
      refine c_ixT (SqT.kp e1 ha) rfl ?_
      walk_at "dc"
      refine ⟨t, z, wd, fs, rfl, ht.kp e1, hz, fun p3 H3 e3 hp3 => ?_⟩
      walk_at "dc"
      walk_at "nw"
      intro q4 H4 N4
      refine q _ H4 ((e1.trans e3).trans N4.kp) ?_
      simp only [askF, g]
      exact .tup (SqT.of N4.at_) (.cons (.str _) (.cons (Dt.kp hp3 N4.kp) .nil))
  | _ => cases hq
theorem D__ask (T : TX K mg) : DefAt P w K mg base CX0 "_ask" 5 ["tree", "action"] (spAsk K) :=
  def_of T 15 36 sc__ask bn__ask (by walk_at "len") (b__ask T)
end
end K36



namespace K36
open PySem L2 Sa
/-! ## the plain model of deeds -/
def blockedF (fs : List File) (p : Str) : Bool := decide (0 < (insideF fs p).length) || decide (0 < (aboveF fs p).length)
def splicedL (ls old new : List Str) (i : Nat) : List Str := ls.take i ++ new ++ ls.drop (i + old.length)
def deedF (fs : List File) : Action → PyData × List File
  | .write p ls => if blockedF fs p then (wordD "blocked", fs) else if (at? fs p).isNone && decide (fs.length = 20) then (wordD "full", fs) else (wordD "done", sortF (withF fs p ls))
  | .remove p => if (at? fs p).isNone then (wordD "missing", fs) else (wordD "done", sortF (withoutF fs p))
  | .move p t => (match at? fs p with
    | none => (wordD "missing", fs)
    | some ls => if (at? (sortF (withoutF fs p)) t).isSome || blockedF (sortF (withoutF fs p)) t then (wordD "blocked", fs) else (wordD "done", sortF (withF (sortF (withoutF fs p)) t ls)))
  | .splice p old new => (match at? fs p with
    | none => (wordD "missing", fs)
    | some ls => (match placesF ls old with
      | [] => (wordD "absent", fs)
      | [i] => if decide ((12 : Int) < (ls.length : Int) - old.length + new.length) then (wordD "long", fs) else (wordD "done", sortF (withF fs p (splicedL ls old new i)))
      | _ => (wordD "ambiguous", fs)))
  | _ => (wordD "none", fs)
def actF (fs : List File) (x : Action) : PyData × List File := if x.isQ then (askF fs x, fs) else deedF fs x
/-! ## good files -/
structure GoodP (fs : List File) : Prop where
  len : fs.length ≤ 20
  once : Once fs
  path : ∀ f ∈ fs, isPathS f.1 = true
  lines : ∀ f ∈ fs, isLinesS f.2 = true
  apart : ∀ f ∈ fs, ∀ g ∈ fs, isInsideS f.1 g.1 = false
theorem fold_nodup : ∀ (xs σ : List Str), xs.Nodup → (∀ x ∈ xs, x ∉ σ) → xs.foldl stepT σ = σ ++ xs
  | [], σ, _, _ => by simp
  | x :: r, σ, h, hn => by
    obtain ⟨h1, h2⟩ := List.nodup_cons.mp h
    have e : stepT σ x = σ ++ [x] := by
      unfold stepT
      rw [if_neg fun hz => by obtain ⟨y, hy, e⟩ := List.any_eq_true.mp hz; exact hn x (List.mem_cons_self ..) ((beq_iff_eq.mp e) ▸ hy)]
    rw [List.foldl_cons, e, fold_nodup r (σ ++ [x]) h2 fun y hy hm => ?_, List.append_assoc]
    · rfl
    · rcases List.mem_append.mp hm with hm | hm
      · exact hn y (List.mem_cons_of_mem _ hy) hm
      · rw [List.mem_singleton.mp hm] at hy; exact h1 hy
theorem ded_nodup {xs : List Str} (h : xs.Nodup) : ded xs = xs := by
  have := fold_nodup xs [] h (by simp)
  exact this
theorem goodF_iff {fs : List File} : goodF fs = true ↔ GoodP fs := by
  constructor
  · intro h
    exact ⟨good_len h, goodF_once h, fun f hf => (good_row h hf).1, fun f hf => (good_row h hf).2.1, fun f hf g hg => (good_row h hf).2.2 g.1 (List.mem_map_of_mem hg)⟩
  · intro h
    unfold goodF
    rw [ded_nodup (xs := pathsOf fs) h.once]
    have e : (pathsOf fs).length = fs.length := List.length_map ..
    rw [e, decide_eq_true h.len, decide_eq_false (Nat.lt_irrefl _), Bool.not_false, Bool.true_and, Bool.true_and, List.all_eq_true]
    intro f hf
    unfold goodRow
    rw [h.path f hf, h.lines f hf, Bool.true_and, Bool.true_and, Bool.not_eq_true', List.any_eq_false]
    intro o ho
    obtain ⟨g, hg, rfl⟩ := List.mem_map.mp ho
    rw [h.apart f hf g hg]
    exact Bool.false_ne_true
theorem GoodP.perm {fs gs : List File} (h : GoodP fs) (p : fs.Perm gs) : GoodP gs :=
  ⟨by rw [← p.length_eq]; exact h.len, (p.map Prod.fst).nodup h.once, fun f hf => h.path f (p.symm.subset hf), fun f hf => h.lines f (p.symm.subset hf), fun f hf g hg => h.apart f (p.symm.subset hf) g (p.symm.subset hg)⟩
theorem GoodP.sort {fs : List File} (h : GoodP fs) : GoodP (sortF fs) := h.perm (sortF_perm fs).symm
theorem GoodP.without {fs : List File} (h : GoodP fs) (p : Str) : GoodP (withoutF fs p) := by
  have sub : ∀ f ∈ withoutF fs p, f ∈ fs := fun f hf => (List.mem_filter.mp hf).1
  exact ⟨Nat.le_trans (List.length_filter_le _ _) h.len, List.Nodup.sublist (List.Sublist.map _ List.filter_sublist) h.once, fun f hf => h.path f (sub f hf), fun f hf => h.lines f (sub f hf), fun f hf g hg => h.apart f (sub f hf) g (sub g hg)⟩
theorem starts_len {x y : Str} (h : Txt.startswith x y = true) : y.length ≤ x.length := by
  rw [← cut_starts, decide_eq_true_eq] at h
  have := cutS_len x none (some (y.length : Int))
  rw [h] at this
  exact this
theorem path_ne {p : Str} (h : isPathS p = true) : p ≠ PySem.Str.ofString "" := fun e => by
  rw [e] at h
  revert h
  decide +kernel
theorem self_out {p : Str} (h : isPathS p = true) : isInsideS p p = false := by
  unfold isInsideS
  rw [decide_eq_false (path_ne h), Bool.false_or]
  cases q : Txt.startswith p (p ++ PySem.Str.ofString "/") with
  | false => rfl
  | true =>
    have := starts_len q
    rw [str_app_len] at this
    have e1 : (PySem.Str.ofString "/").length = 1 := by decide
    omega
theorem nob {fs : List File} {p : Str} (h : blockedF fs p = false) : (∀ g ∈ fs, isInsideS g.1 p = false) ∧ ∀ g ∈ fs, isInsideS p g.1 = false := by
  unfold blockedF at h
  simp only [Bool.or_eq_false_iff, decide_eq_false_iff_not, Nat.not_lt, Nat.le_zero, List.length_eq_zero_iff] at h
  refine ⟨fun g hg => ?_, fun g hg => ?_⟩
  · have := List.filter_eq_nil_iff.mp h.1 g.1 (List.mem_map_of_mem hg)
    simpa using this
  · have := List.filter_eq_nil_iff.mp h.2 g.1 (List.mem_map_of_mem hg)
    simpa using this
theorem at_isSome {fs : List File} {p : Str} : (at? fs p).isSome = true ↔ p ∈ pathsOf fs := by
  unfold at? pathsOf
  rw [Option.isSome_map, List.find?_isSome, List.mem_map]
  constructor
  · rintro ⟨f, hf, e⟩; exact ⟨f, hf, by simpa using e⟩
  · rintro ⟨f, hf, e⟩; exact ⟨f, hf, by simpa using e⟩
theorem without_len {fs : List File} {p : Str} (h : p ∈ pathsOf fs) : (withoutF fs p).length < fs.length := by
  obtain ⟨f, hf, e⟩ := List.mem_map.mp h
  unfold withoutF
  refine List.length_filter_lt_length_iff_exists.mpr ⟨f, hf, ?_⟩
  simp [e]
theorem GoodP.withf {fs : List File} {p : Str} {ls : List Str} (h : GoodP fs) (hp : isPathS p = true) (hl : isLinesS ls = true) (nb : (∀ g ∈ fs, isInsideS g.1 p = false) ∧ ∀ g ∈ fs, isInsideS p g.1 = false)
    (hn : fs.length < 20 ∨ (at? fs p).isSome = true) : GoodP (withF fs p ls) := by
  have hw := h.without p
  have mem : ∀ f ∈ withF fs p ls, f ∈ withoutF fs p ∨ f = (p, ls) := fun f hf => by
    rcases List.mem_append.mp hf with hf | hf
    · exact .inl hf
    · exact .inr (List.mem_singleton.mp hf)
  have sub : ∀ f ∈ withoutF fs p, f ∈ fs := fun f hf => (List.mem_filter.mp hf).1
  refine ⟨?_, ?_, fun f hf => ?_, fun f hf => ?_, fun f hf g hg => ?_⟩
  · unfold withF
    rw [List.length_append, List.length_singleton]
    rcases hn with hn | hn
    · have := List.length_filter_le (fun f : File => !decide (f.1 = p)) fs
      unfold withoutF
      omega
    · have := without_len (at_isSome.mp hn)
      have := h.len
      omega
  · unfold withF Once
    rw [List.map_append, List.nodup_append]
    refine ⟨hw.once, by simp, fun a ha b hb => ?_⟩
    simp only [List.map_cons, List.map_nil, List.mem_singleton] at hb
    subst hb
    obtain ⟨f, hf, rfl⟩ := List.mem_map.mp ha
    have := (List.mem_filter.mp hf).2
    simpa using this
  · rcases mem f hf with hf | rfl
    · exact hw.path f hf
    · exact hp
  · rcases mem f hf with hf | rfl
    · exact hw.lines f hf
    · exact hl
  · rcases mem f hf with hf | rfl <;> rcases mem g hg with hg | rfl
    · exact hw.apart f hf g hg
    · exact nb.1 f (sub f hf)
    · exact nb.2 g (sub g hg)
    · exact self_out hp
theorem own_nob {fs : List File} {p : Str} (h : GoodP fs) (hp : p ∈ pathsOf fs) : (∀ g ∈ fs, isInsideS g.1 p = false) ∧ ∀ g ∈ fs, isInsideS p g.1 = false := by
  obtain ⟨f, hf, rfl⟩ := List.mem_map.mp hp
  exact ⟨fun g hg => h.apart g hg f hf, fun g hg => h.apart f hf g hg⟩
theorem places_lt {xs ys : List Str} {i : Nat} (h : i ∈ placesF xs ys) : i + ys.length ≤ xs.length := by
  have := List.mem_range.mp (List.mem_filter.mp h).1
  omega
theorem lines_splice {ls old new : List Str} {i : Nat} (h1 : isLinesS ls = true) (h2 : isLinesS new = true) (hi : i + old.length ≤ ls.length) (hn : ¬ (12 : Int) < (ls.length : Int) - old.length + new.length) : isLinesS (splicedL ls old new i) = true := by
  unfold isLinesS at h1 h2 ⊢
  simp only [Bool.and_eq_true, decide_eq_true_eq, List.all_eq_true] at h1 h2 ⊢
  unfold splicedL
  refine ⟨?_, fun y hy => ?_⟩
  · rw [List.length_append, List.length_append, List.length_take, List.length_drop]
    omega
  · rcases List.mem_append.mp hy with hy | hy
    · rcases List.mem_append.mp hy with hy | hy
      · exact h1.2 y (List.mem_of_mem_take hy)
      · exact h2.2 y hy
    · exact h1.2 y (List.mem_of_mem_drop hy)
/-- what an action within its bounds leaves is good -/
theorem GoodP.act {fs : List File} {x : Action} (h : GoodP fs) (hb : x.bad = none) : GoodP (actF fs x).2 := by
  unfold actF
  cases x with
  | write p ls =>
    simp only [Action.isQ, Bool.false_eq_true, if_false, deedF]
    simp only [Action.bad] at hb
    split at hb
    · rename_i hp
      split at hb
      · rename_i hl
        split
        · exact h
        · rename_i hbl
          split
          · exact h
          · rename_i hf
            refine (h.withf hp hl (nob (by simpa using hbl)) ?_).sort
            simp only [Bool.and_eq_true, decide_eq_true_eq, not_and] at hf
            cases q : at? fs p with
            | some _ => exact .inr rfl
            | none =>
              have := hf (by rw [q]; rfl)
              have := h.len
              exact .inl (by omega)
      · cases hb
    · cases hb
  | remove p =>
    simp only [Action.isQ, Bool.false_eq_true, if_false, deedF]
    split
    · exact h
    · exact (h.without p).sort
  | move p t =>
    simp only [Action.isQ, Bool.false_eq_true, if_false, deedF]
    simp only [Action.bad] at hb
    split at hb
    · rename_i hp
      split at hb
      · rename_i ht
        cases q : at? fs p with
        | none => exact h
        | some ls =>
          simp only
          split
          · exact h
          · rename_i hf
            simp only [Bool.or_eq_true, not_or, Bool.not_eq_true] at hf
            have hw := (h.without p).sort
            have hm := at_mem q
            refine (hw.withf ht (h.lines _ hm) (nob hf.2) (.inl ?_)).sort
            rw [sortF_len]
            have := without_len (List.mem_map_of_mem (f := Prod.fst) hm)
            have := h.len
            simp only at *
            omega
      · cases hb
    · cases hb
  | splice p old new =>
    simp only [Action.isQ, Bool.false_eq_true, if_false, deedF]
    simp only [Action.bad] at hb
    split at hb
    · rename_i hp
      split at hb
      · split at hb
        · rename_i hnew
          cases q : at? fs p with
          | none => exact h
          | some ls =>
            simp only
            have hm := at_mem q
            have hpm : p ∈ pathsOf fs := List.mem_map_of_mem (f := Prod.fst) hm
            split
            · exact h
            · rename_i i hpl
              split
              · exact h
              · rename_i hlong
                have hi := places_lt (xs := ls) (ys := old) (i := i) (by rw [hpl]; exact List.mem_singleton.mpr rfl)
                exact (h.withf hp (lines_splice (h.lines _ hm) hnew hi (by simpa using hlong)) (own_nob h hpm) (.inr (by rw [q]; rfl))).sort
            · exact h
        · cases hb
      · cases hb
    · cases hb
  | _ => exact h
end K36



namespace K36
open PySem L2 Sa
/-- what a deed hands back: the answer and the tree -/
def RetA (K : PySem.W.Frag) (H : Hp) (Q : VK) (r : PyData × List File) : Prop := ∀ p v t' H', Kp [] H H' → SqT K H' p [v, .ref t'] → Dt K H' v r.1 → TreeG K H' t' r.2 → Q (.ref p) H'
theorem RetA.kp {K : PySem.W.Frag} {H H1 : Hp} {Q : VK} {r : PyData × List File} (h : RetA K H Q r) (e : Kp [] H H1) : RetA K H1 Q r := fun p v t' H' e' h1 h2 h3 => h p v t' H' (e.trans e') h1 h2 h3
/-- the pair at hand -/
theorem RetA.now {K : PySem.W.Frag} {H H1 : Hp} {Q : VK} {r : PyData × List File} {v : V} {t' : Addr} (h : RetA K H Q r) (e : Kp [] H H1) (hv : Dt K H1 v r.1) (ht : TreeG K H1 t' r.2) : [v, V.ref t'].length ≤ sizeLine ∧ ∀ p, H1 p = none → Ret Q (.ref p) (upd H1 p (.tup [v, .ref t'])) :=
  ⟨by rw [sizeLine_eq]; exact Nat.le_of_ble_eq_true rfl, fun p hp => h p v t' _ (e.trans (Kp.new hp)) (SqT.of upd_same) (Dt.kp hv (Kp.new hp)) (ht.kp (Kp.new hp))⟩
theorem newT {K : PySem.W.Frag} {H : Hp} {t : Addr} {gs : List File} (h : TreeAt K H t (sortF gs)) (g : GoodP gs) : TreeG K H t (sortF gs) := ⟨h, goodF_iff.mpr g.sort⟩
section
variable {P : Program} {w : World} {K : PySem.W.Frag} {mg : Str → Option Value} {base : Heap}
def spBlocked (K : PySem.W.Frag) : Sp := fun vs H Q _ => ∃ (t : Addr) (p : Str) (fs : List File), vs = [.ref t, .str p] ∧ TreeG K H t fs ∧ p.length ≤ 1000 ∧ ∀ H', Kp [] H H' → Q (.bl (blockedF fs p)) H'
theorem posI {α : Type} (xs : List α) : decide ((0 : Int) < (xs.length : Int)) = decide (0 < xs.length) := by congr 1; exact propext ⟨fun h => by omega, fun h => by omega⟩
theorem sc__is_blocked : FnScope ["tree", "path"] ["tree", "path"] (defScope s__is_blocked) := ⟨rfl, rfl, rfl, by decide +kernel, rfl, by decide +kernel, by decide +kernel⟩
theorem bn__is_blocked : BindN "_is_blocked" s__is_blocked ["tree", "path"] := fun _ _ _ _ _ _ us hl => match us, hl with | [_, _], _ => rfl
theorem b__is_blocked (T : TX K mg) : Body P w K mg base "_is_blocked" s__is_blocked ["tree", "path"] 3 (spBlocked K) := by
  intro cdv A outer s H vs Q E h X hr
  obtain ⟨t, p, fs, rfl, ht, hp, q⟩ := h
  have C_Tree := C_Tree T; have M_Tree_above := M_Tree_above (P := P) (w := w) (base := base) T; have M_Tree_paths := M_Tree_paths (P := P) (w := w) (base := base) T
  refine ⟨_, (pss_one (ps_ret (pe_or (pe_cmpR op_gtU (pe_callB (cr_len (K := K)) rfl (T.free 2) PySem.boot_len (pa_cons (pe_methS1 M_Tree_paths C_Tree hr at0 (pv 0) (pa_cons (pv 1) pa_nil)) pa_nil)) pe_int (nomark _)) (pe_one (pe_cmpR op_gtU (pe_callB (cr_len (K := K)) rfl (T.free 2) PySem.boot_len (pa_cons (pe_methS1 M_Tree_above C_Tree hr at0 (pv 0) (pa_cons (pv 1) pa_nil)) pa_nil)) pe_int (nomark _)))))), ?_⟩
  have hl := good_len ht.good
  walk_at "st"
  refine c_recvT ht rfl ?_
  walk_at "st"
  refine ⟨t, p, fs, rfl, ht.at_, by omega, good_path ht.good, hp, fun pp H1 e1 hpp => ?_⟩
  walk_at "st"
  rw [posI, List.length_map]
  refine c_orK (decide (0 < (aboveF fs p).length)) (fun R k => ?_) (fun H' e' => q H' (e1.trans e'))
  walk_at "st"
  refine c_recvT (ht.kp e1) rfl ?_
  walk_at "st"
  refine ⟨t, p, fs, rfl, (ht.kp e1).at_, by omega, good_path ht.good, hp, fun pp H2 e2 hpp => ?_⟩
  walk_at "st"
  rw [posI, List.length_map]
  exact k _ e2
theorem D__is_blocked (T : TX K mg) : DefAt P w K mg base CX0 "_is_blocked" 4 ["tree", "path"] (spBlocked K) :=
  def_of T 16 37 sc__is_blocked bn__is_blocked (by walk_at "len") (b__is_blocked T)
def spWrite (K : PySem.W.Frag) : Sp := fun vs H Q _ => ∃ (t l : Addr) (p : Str) (ls : List Str) (fs : List File), vs = [.ref t, .str p, .ref l] ∧ TreeG K H t fs ∧ isPathS p = true ∧ isLinesS ls = true ∧ SqT K H l (ls.map V.str) ∧ RetA K H Q (deedF fs (.write p ls))
theorem noE {K : PySem.W.Frag} {gs : List File} {p : Prop} (g : GoodP gs) (h : goodF gs = false) : p := by rw [goodF_iff.mpr g] at h; cases h
theorem sc__write : FnScope ["tree", "path", "lines"] ["tree", "path", "lines"] (defScope s__write) := ⟨rfl, rfl, rfl, by decide +kernel, rfl, by decide +kernel, by decide +kernel⟩
theorem bn__write : BindN "_write" s__write ["tree", "path", "lines"] := fun _ _ _ _ _ _ us hl => match us, hl with | [_, _, _], _ => rfl
theorem b__write (T : TX K mg) : BodyX P w K mg base "_write" s__write ["tree", "path", "lines"] 8 (spWrite K) := by
  intro cdv A outer s H vs Q E h X hr tk
  obtain ⟨t, l, p, ls, fs, rfl, ht, hp, hl, hls, q⟩ := h
  have C_Tree := C_Tree T; have D__is_blocked := D__is_blocked (P := P) (w := w) (base := base) T; have M_Tree_files := M_Tree_files (P := P) (w := w) (base := base) T; have M_Tree_lines := M_Tree_lines (P := P) (w := w) (base := base) T; have M_Tree_with_file := M_Tree_with_file (P := P) (w := w) (base := base) T
  refine ⟨_, (pss_cons (ps_if (pt_tru (K := K) (pe_callA D__is_blocked hr pass0 (pa_cons (pv 0) (pa_cons (pv 1) pa_nil)))) (pss_one (ps_ret (pe_tup (pa_cons (pe_tup (pa_cons pe_str pa_nil)) (pa_cons (pv 0) pa_nil))))) pss_nil) (pss_cons (ps_if (PW.pt (pw_and (pt_cmpR op_isU (pe_methS1 M_Tree_lines C_Tree hr at0 (pv 0) (pa_cons (pv 1) pa_nil)) pe_non (nomark _)) (pw_and1 (pt_cmpR (op_eqU (K := K) hr.units) (pe_callB (cr_len (K := K)) rfl (T.free 2) PySem.boot_len (pa_cons (pe_methS0 M_Tree_files C_Tree hr at0 (pv 0)) pa_nil)) (pe_gInt (T.int 20)) (nomark _))))) (pss_one (ps_ret (pe_tup (pa_cons (pe_tup (pa_cons pe_str pa_nil)) (pa_cons (pv 0) pa_nil))))) pss_nil) (pss_one (ps_ret (pe_tup (pa_cons (pe_gCon (T.glo 38)) (pa_cons (pe_methS1 M_Tree_with_file C_Tree hr (atW tk) (pv 0) (pa_cons (pv 1) (pa_cons (pv 2) pa_nil))) pa_nil))))))), ?_⟩
  have gp := goodF_iff.mp ht.good
  have pl := path_len hp
  walk_at "st"
  refine ⟨t, p, fs, rfl, ht, by omega, fun H1 e1 => ?_⟩
  walk_at "st"
  refine c_iteB (fun g => ?_) (fun g => ?_)
  · walk_at "st"
    walk_at "nw"
    intro p1 H2 N2
    walk_at "st"
    have e : deedF fs (.write p ls) = (wordD "blocked", fs) := by simp only [deedF, g, if_true]
    rw [e] at q
    exact q.now (e1.trans N2.kp) (.tup (SqT.of N2.at_) (.cons (.str _) .nil)) (ht.kp (e1.trans N2.kp))
  walk_at "st"
  refine c_recvT (ht.kp e1) rfl ?_
  walk_at "st"
  have done : ∀ H2, Kp [] H H2 → ¬ ((at? fs p).isNone && decide (fs.length = 20)) = true → spTWith K [.ref t, .str p, .ref l] H2 (fun v H3 => Ret Q v H3) (fun _ _ _ => False) → True := fun _ _ _ _ => trivial
  have gw : ¬ ((at? fs p).isNone && decide (fs.length = 20)) = true → GoodP (withF fs p ls) := fun hf => gp.withf hp hl (nob g) (by
    simp only [Bool.and_eq_true, decide_eq_true_eq, not_and] at hf
    cases q : at? fs p with
    | some _ => exact .inr rfl
    | none =>
      have := hf (by rw [q]; rfl)
      have := gp.len
      exact .inl (by omega))
  refine ⟨t, p, fs, rfl, (ht.kp e1).at_, fun g1 => ?_, fun ls1 l1 g1 hl1 => ?_⟩
  · walk_at "dc"
    refine c_recvT (ht.kp e1) rfl ?_
    walk_at "st"
    refine ⟨t, fs, rfl, (ht.kp e1).at_, by have := gp.len; omega, fun pf H2 rs e2 hpf hrs hok => ?_⟩
    walk_at "st"
    have hrl : (rs.map fun r => V.ref r.1).length = fs.length := by rw [List.length_map, ← hrs, List.length_map]
    rw [hrl]
    refine c_ite (fun g2 => ?_) (fun g2 => ?_)
    · walk_at "st"
      walk_at "nw"
      intro p1 H3 N3
      walk_at "st"
      have e : deedF fs (.write p ls) = (wordD "full", fs) := by
        simp only [deedF, g, g1, Bool.false_eq_true, if_false]
        rw [if_pos]
        rw [decide_eq_true (by omega)]
        rfl
      rw [e] at q
      exact q.now ((e1.trans e2).trans N3.kp) (.tup (SqT.of N3.at_) (.cons (.str _) .nil)) (ht.kp ((e1.trans e2).trans N3.kp))
    · have hf : ¬ ((at? fs p).isNone && decide (fs.length = 20)) = true := by rw [g1, decide_eq_false (by omega)]; simp
      have e : deedF fs (.write p ls) = (wordD "done", sortF (withF fs p ls)) := by simp only [deedF, g, Bool.false_eq_true, if_false]; rw [if_neg hf]
      rw [e] at q
      walk_at "st"
      refine c_recvT (ht.kp (e1.trans e2)) rfl ?_
      walk_at "st"
      refine ⟨t, l, p, ls, fs, rfl, (ht.kp (e1.trans e2)).at_, by have := gp.len; omega, SqT.kp (e1.trans e2) hls, good_sane (goodF_iff.mpr (gw hf)), fun _ y H3 e3 hy => ?_, fun h => noE (K := K) (gw hf) h⟩
      walk_at "st"
      exact q.now ((e1.trans e2).trans e3) (dtDONE T _) (newT hy (gw hf))
  · have hf : ¬ ((at? fs p).isNone && decide (fs.length = 20)) = true := by rw [g1]; simp
    have e : deedF fs (.write p ls) = (wordD "done", sortF (withF fs p ls)) := by simp only [deedF, g, Bool.false_eq_true, if_false]; rw [if_neg hf]
    rw [e] at q
    walk_at "dc"
    refine c_recvT (ht.kp e1) rfl ?_
    walk_at "st"
    refine ⟨t, l, p, ls, fs, rfl, (ht.kp e1).at_, by have := gp.len; omega, SqT.kp e1 hls, good_sane (goodF_iff.mpr (gw hf)), fun _ y H3 e3 hy => ?_, fun h => noE (K := K) (gw hf) h⟩
    walk_at "st"
    exact q.now (e1.trans e3) (dtDONE T _) (newT hy (gw hf))
theorem D__write (T : TX K mg) : DefAt P w K mg base (L2.CX P w) "_write" 9 ["tree", "path", "lines"] (spWrite K) :=
  def_ofX T 17 39 sc__write bn__write (by walk_at "len") (b__write T)
def spMove (K : PySem.W.Frag) : Sp := fun vs H Q _ => ∃ (t : Addr) (p z : Str) (fs : List File), vs = [.ref t, .str p, .str z] ∧ TreeG K H t fs ∧ isPathS p = true ∧ isPathS z = true ∧ RetA K H Q (deedF fs (.move p z))
theorem sc__move : FnScope ["tree", "path", "target", "lines", "rest"] ["tree", "path", "target"] (defScope s__move) := ⟨rfl, rfl, rfl, by decide +kernel, rfl, by decide +kernel, by decide +kernel⟩
theorem bn__move : BindN "_move" s__move ["tree", "path", "target"] := fun _ _ _ _ _ _ us hl => match us, hl with | [_, _, _], _ => rfl
theorem b__move (T : TX K mg) : BodyX P w K mg base "_move" s__move ["tree", "path", "target", "lines", "rest"] 8 (spMove K) := by
  intro cdv A outer s H vs Q E h X hr tk
  obtain ⟨t, p, z, fs, rfl, ht, hp, hz, q⟩ := h
  have C_Tree := C_Tree T; have D__is_blocked := D__is_blocked (P := P) (w := w) (base := base) T; have M_Tree_lines := M_Tree_lines (P := P) (w := w) (base := base) T; have M_Tree_with_file := M_Tree_with_file (P := P) (w := w) (base := base) T; have M_Tree_without := M_Tree_without (P := P) (w := w) (base := base) T
  refine ⟨_, (pss_cons (ps_set (i := 3) sc__move.nd rfl (Or.inl rfl) (pe_methS1 M_Tree_lines C_Tree hr at0 (pv 0) (pa_cons (pv 1) pa_nil))) (pss_cons (ps_if (pt_cmpR op_isU (pv 3) pe_non (nomark _)) (pss_one (ps_ret (pe_tup (pa_cons (pe_tup (pa_cons pe_str pa_nil)) (pa_cons (pv 0) pa_nil))))) pss_nil) (pss_cons (ps_set (i := 4) sc__move.nd rfl (Or.inl rfl) (pe_methS1 M_Tree_without C_Tree hr (atW tk) (pv 0) (pa_cons (pv 1) pa_nil))) (pss_cons (ps_if (PW.pt (pw_or (pt_cmpR op_isNotU (pe_methS1 M_Tree_lines C_Tree hr at0 (pv 4) (pa_cons (pv 2) pa_nil)) pe_non (nomark _)) (pw_or1 (pt_tru (K := K) (pe_callA D__is_blocked hr pass0 (pa_cons (pv 4) (pa_cons (pv 2) pa_nil))))))) (pss_one (ps_ret (pe_tup (pa_cons (pe_tup (pa_cons pe_str pa_nil)) (pa_cons (pv 0) pa_nil))))) pss_nil) (pss_one (ps_ret (pe_tup (pa_cons (pe_gCon (T.glo 38)) (pa_cons (pe_methS1 M_Tree_with_file C_Tree hr (atW tk) (pv 4) (pa_cons (pv 2) (pa_cons (pv 3) pa_nil))) pa_nil))))))))), ?_⟩
  have gp := goodF_iff.mp ht.good
  have zl := path_len hz
  walk_at "st"
  refine c_recvT ht rfl ?_
  walk_at "st"
  refine ⟨t, p, fs, rfl, ht.at_, fun g1 => ?_, fun ls la g1 hla => ?_⟩
  · walk_at "dc"
    walk_at "nw"
    intro p1 H2 N2
    walk_at "st"
    have e : deedF fs (.move p z) = (wordD "missing", fs) := by simp only [deedF, g1]
    rw [e] at q
    exact q.now N2.kp (.tup (SqT.of N2.at_) (.cons (.str _) .nil)) (ht.kp N2.kp)
  have hm := at_mem g1
  have gw := gp.without p
  walk_at "dc"
  refine c_recvT ht rfl ?_
  walk_at "st"
  refine ⟨t, p, fs, rfl, ht.at_, by have := gp.len; omega, good_sane (goodF_iff.mpr gw), fun _ r H1 e1 hr => ?_, fun h => noE (K := K) gw h⟩
  have hr : TreeG K H1 r (sortF (withoutF fs p)) := newT hr gw
  walk_at "st"
  refine c_recvT hr rfl ?_
  walk_at "st"
  have bad : ∀ H2, Kp [] H1 H2 → ((at? (sortF (withoutF fs p)) z).isSome || blockedF (sortF (withoutF fs p)) z) = true → RetA K H Q (wordD "blocked", fs) := fun H2 e2 g => by
    have e : deedF fs (.move p z) = (wordD "blocked", fs) := by simp only [deedF, g1]; rw [if_pos g]
    rw [e] at q
    exact q
  refine ⟨r, z, _, rfl, hr.at_, fun g2 => ?_, fun ls2 l2 g2 hl2 => ?_⟩
  · walk_at "dc"
    refine ⟨r, z, _, rfl, hr, by omega, fun H2 e2 => ?_⟩
    walk_at "st"
    refine c_iteB (fun g => ?_) (fun g => ?_)
    · walk_at "st"
      walk_at "nw"
      intro p1 H3 N3
      walk_at "st"
      exact (bad _ Kp.refl (by rw [g, Bool.or_true])).now ((e1.trans e2).trans N3.kp) (.tup (SqT.of N3.at_) (.cons (.str _) .nil)) (ht.kp ((e1.trans e2).trans N3.kp))
    · have gr : GoodP (withF (sortF (withoutF fs p)) z ls) := gw.sort.withf hz (gp.lines _ hm) (nob g) (.inl (by
        rw [sortF_len]
        have := without_len (List.mem_map_of_mem (f := Prod.fst) hm)
        have := gp.len
        simp only at *
        omega))
      have e : deedF fs (.move p z) = (wordD "done", sortF (withF (sortF (withoutF fs p)) z ls)) := by simp only [deedF, g1, g2, g]; rfl
      rw [e] at q
      walk_at "st"
      refine c_recvT (hr.kp e2) rfl ?_
      walk_at "st"
      refine ⟨r, la, z, ls, _, rfl, (hr.kp e2).at_, by rw [sortF_len]; have := gw.len; omega, SqT.kp (e1.trans e2) hla, good_sane (goodF_iff.mpr gr), fun _ y H3 e3 hy => ?_, fun h => noE (K := K) gr h⟩
      walk_at "st"
      exact q.now ((e1.trans e2).trans e3) (dtDONE T _) (newT hy gr)
  · walk_at "dc"
    walk_at "nw"
    intro p1 H3 N3
    walk_at "st"
    exact (bad _ Kp.refl (by rw [g2]; rfl)).now (e1.trans N3.kp) (.tup (SqT.of N3.at_) (.cons (.str _) .nil)) (ht.kp (e1.trans N3.kp))
theorem D__move (T : TX K mg) : DefAt P w K mg base (L2.CX P w) "_move" 9 ["tree", "path", "target"] (spMove K) :=
  def_ofX T 18 40 sc__move bn__move (by walk_at "len") (b__move T)
def spSplice (K : PySem.W.Frag) : Sp := fun vs H Q _ => ∃ (t l m : Addr) (p : Str) (old new : List Str) (fs : List File), vs = [.ref t, .str p, .ref l, .ref m] ∧ TreeG K H t fs ∧ isPathS p = true ∧ isLinesS old = true ∧ isLinesS new = true ∧ SqT K H l (old.map V.str) ∧ SqT K H m (new.map V.str) ∧ RetA K H Q (deedF fs (.splice p old new))
theorem sc__splice : FnScope ["tree", "path", "old", "new", "lines", "places", "at"] ["tree", "path", "old", "new"] (defScope s__splice) := ⟨rfl, rfl, rfl, by decide +kernel, rfl, by decide +kernel, by decide +kernel⟩
theorem bn__splice : BindN "_splice" s__splice ["tree", "path", "old", "new"] := fun _ _ _ _ _ _ us hl => match us, hl with | [_, _, _, _], _ => rfl
theorem b__splice (T : TX K mg) : BodyX P w K mg base "_splice" s__splice ["tree", "path", "old", "new", "lines", "places", "at"] 8 (spSplice K) := by
  intro cdv A outer s H vs Q E h X hr tk
  obtain ⟨t, l, m, p, old, new, fs, rfl, ht, hp, ho, hn, hl, hm, q⟩ := h
  have C_Tree := C_Tree T; have D_places_of := D_places_of (P := P) (w := w) (base := base) T; have M_Tree_lines := M_Tree_lines (P := P) (w := w) (base := base) T; have M_Tree_with_file := M_Tree_with_file (P := P) (w := w) (base := base) T
  refine ⟨_, (pss_cons (ps_set (i := 4) sc__splice.nd rfl (Or.inl rfl) (pe_methS1 M_Tree_lines C_Tree hr at0 (pv 0) (pa_cons (pv 1) pa_nil))) (pss_cons (ps_if (pt_cmpR op_isU (pv 4) pe_non (nomark _)) (pss_one (ps_ret (pe_tup (pa_cons (pe_tup (pa_cons pe_str pa_nil)) (pa_cons (pv 0) pa_nil))))) pss_nil) (pss_cons (ps_set (i := 5) sc__splice.nd rfl (Or.inl rfl) (pe_callA D_places_of hr pass0 (pa_cons (pv 4) (pa_cons (pv 2) pa_nil)))) (pss_cons (ps_if (pt_not (pt_tru (K := K) (pv 5))) (pss_one (ps_ret (pe_tup (pa_cons (pe_tup (pa_cons pe_str pa_nil)) (pa_cons (pv 0) pa_nil))))) pss_nil) (pss_cons (ps_if (pt_cmpR op_gtU (pe_callB (cr_len (K := K)) rfl (T.free 2) PySem.boot_len (pa_cons (pv 5) pa_nil)) pe_int (nomark _)) (pss_one (ps_ret (pe_tup (pa_cons (pe_tup (pa_cons pe_str pa_nil)) (pa_cons (pv 0) pa_nil))))) pss_nil) (pss_cons (ps_if (pt_cmpR op_gtU (pe_op (op_addU (K := K)) (pe_op op_subU (pe_callB (cr_len (K := K)) rfl (T.free 2) PySem.boot_len (pa_cons (pv 4) pa_nil)) (pe_callB (cr_len (K := K)) rfl (T.free 2) PySem.boot_len (pa_cons (pv 2) pa_nil))) (pe_callB (cr_len (K := K)) rfl (T.free 2) PySem.boot_len (pa_cons (pv 3) pa_nil))) (pe_gInt (T.int 15)) (nomark _)) (pss_one (ps_ret (pe_tup (pa_cons (pe_tup (pa_cons pe_str pa_nil)) (pa_cons (pv 0) pa_nil))))) pss_nil) (pss_cons (ps_set (i := 6) sc__splice.nd rfl (Or.inl rfl) (pe_ix (ix_U (K := K)) (pv 5) pe_int (fun _ _ => rfl))) (pss_one (ps_ret (pe_tup (pa_cons (pe_gCon (T.glo 38)) (pa_cons (pe_methS1 M_Tree_with_file C_Tree hr (atW tk) (pv 0) (pa_cons (pv 1) (pa_cons (pe_op (op_addU (K := K)) (pe_op (op_addU (K := K)) (pe_slice (sl_U (K := K)) (pv 4) po_none (po_some (pv 6))) (pe_callTy (cr_tuple (K := K)) rfl (T.free 28) (by decide +kernel) (pa_cons (pv 3) pa_nil))) (pe_slice (sl_U (K := K)) (pv 4) (po_some (pe_op (op_addU (K := K)) (pv 6) (pe_callB (cr_len (K := K)) rfl (T.free 2) PySem.boot_len (pa_cons (pv 2) pa_nil)))) po_none)) pa_nil))) pa_nil)))))))))))), ?_⟩
  have gp := goodF_iff.mp ht.good
  obtain ⟨ol, oo⟩ := lines_len ho
  obtain ⟨nl, no⟩ := lines_len hn
  walk_at "st"
  refine c_recvT ht rfl ?_
  walk_at "st"
  refine ⟨t, p, fs, rfl, ht.at_, fun g1 => ?_, fun ls la g1 hla => ?_⟩
  · walk_at "dc"
    walk_at "nw"
    intro p1 H2 N2
    walk_at "st"
    have e : deedF fs (.splice p old new) = (wordD "missing", fs) := by simp only [deedF, g1]
    rw [e] at q
    exact q.now N2.kp (.tup (SqT.of N2.at_) (.cons (.str _) .nil)) (ht.kp N2.kp)
  have hme := at_mem g1
  have hls := gp.lines _ hme
  obtain ⟨ll, lo⟩ := lines_len hls
  walk_at "dc"
  refine ⟨la, l, ls, old, rfl, hla, hl, fun y hy => plain_ok (lo y hy).2, fun y hy => plain_ok (oo y hy).2, by simp only at ll; omega, by omega, fun pp H1 hpn e1 hpp => ?_⟩
  walk_at "st"
  refine c_truL (SqL.of hpp) ?_
  have ei : (((placesF ls old).map fun i => V.int (i : Nat)).isEmpty) = (placesF ls old).isEmpty := by cases placesF ls old <;> rfl
  rw [ei]
  refine c_iteNB (fun g2 => ?_) (fun g2 => ?_)
  · have g2 : placesF ls old = [] := by cases h : placesF ls old with
      | nil => rfl
      | cons a b => rw [h] at g2; cases g2
    walk_at "st"
    walk_at "nw"
    intro p1 H3 N3
    walk_at "st"
    have e : deedF fs (.splice p old new) = (wordD "absent", fs) := by simp only [deedF, g1, g2]
    rw [e] at q
    exact q.now (e1.trans N3.kp) (.tup (SqT.of N3.at_) (.cons (.str _) .nil)) (ht.kp (e1.trans N3.kp))
  obtain ⟨i, r, hpl⟩ : ∃ i r, placesF ls old = i :: r := by
    cases h : placesF ls old with
    | nil => rw [h] at g2; cases g2
    | cons a b => exact ⟨a, b, rfl⟩
  rw [hpl] at hpp
  have hi := places_lt (xs := ls) (ys := old) (i := i) (by rw [hpl]; exact List.mem_cons_self ..)
  walk_at "st"
  refine c_ite (fun g3 => ?_) (fun g3 => ?_)
  · walk_at "st"
    walk_at "nw"
    intro p1 H3 N3
    walk_at "st"
    have e : deedF fs (.splice p old new) = (wordD "ambiguous", fs) := by
      simp only [List.length_map, List.length_cons] at g3
      cases r with
      | nil => simp at g3
      | cons a b => simp only [deedF, g1, hpl]
    rw [e] at q
    exact q.now (e1.trans N3.kp) (.tup (SqT.of N3.at_) (.cons (.str _) .nil)) (ht.kp (e1.trans N3.kp))
  have er : r = [] := by
    cases r with
    | nil => rfl
    | cons a b => exact absurd (by simp only [List.length_map, List.length_cons]; omega) g3
  subst er
  walk_at "st"
  refine c_lenT (SqT.kp e1 hla) ?_
  walk_at "st"
  refine c_lenT (SqT.kp e1 hl) ?_
  walk_at "st"
  refine c_lenT (SqT.kp e1 hm) ?_
  walk_at "st"
  rw [List.length_map, List.length_map, List.length_map]
  refine c_ite (fun g4 => ?_) (fun g4 => ?_)
  · walk_at "st"
    walk_at "nw"
    intro p1 H3 N3
    walk_at "st"
    have e : deedF fs (.splice p old new) = (wordD "long", fs) := by simp only [deedF, g1, hpl]; rw [if_pos (decide_eq_true g4)]
    rw [e] at q
    exact q.now (e1.trans N3.kp) (.tup (SqT.of N3.at_) (.cons (.str _) .nil)) (ht.kp (e1.trans N3.kp))
  have e : deedF fs (.splice p old new) = (wordD "done", sortF (withF fs p (splicedL ls old new i))) := by simp only [deedF, g1, hpl]; rw [if_neg (by simpa using g4)]
  rw [e] at q
  have gw : GoodP (withF fs p (splicedL ls old new i)) := gp.withf hp (lines_splice hls hn hi g4) (own_nob gp (List.mem_map_of_mem (f := Prod.fst) hme)) (.inr (by rw [g1]; rfl))
  walk_at "st"
  refine c_recvT (ht.kp e1) rfl ?_
  walk_at "st"
  refine c_slT (SqT.kp e1 hla) fun a2 H2 e2 h2 => ?_
  walk_at "st"
  refine c_tupleT (SqT.kp (e1.trans e2) hm) ?_
  walk_at "st"
  have c1 : (cutL (ls.map V.str) none (some (i : Int))).length ≤ 12 := by
    unfold cutL
    rw [List.length_take, List.length_drop, List.length_map]
    simp only at ll
    omega
  refine c_addT h2 (SqT.kp (e1.trans e2) hm) (by rw [sizeLine_eq, List.length_map]; omega) fun a3 H3 e3 h3 => ?_
  walk_at "st"
  refine c_lenT (SqT.kp ((e1.trans e2).trans e3) hl) ?_
  walk_at "st"
  refine c_slT (SqT.kp ((e1.trans e2).trans e3) hla) fun a4 H4 e4 h4 => ?_
  walk_at "st"
  have c2 : (cutL (ls.map V.str) (some ((i : Int) + ((old.map V.str).length : Int))) none).length ≤ 12 := by
    unfold cutL
    rw [List.length_take, List.length_drop, List.length_map]
    simp only at ll
    omega
  refine c_addT (SqT.kp e4 h3) h4 (by rw [sizeLine_eq, List.length_append, List.length_map]; omega) fun a5 H5 e5 h5 => ?_
  walk_at "st"
  have k5 := (((e1.trans e2).trans e3).trans e4).trans e5
  have h5 : SqT K H5 a5 ((splicedL ls old new i).map V.str) := by
    rw [cutL_map, cutL_map, cutL_to (by omega) (by omega), List.length_map, cutL_from (by omega) (by omega)] at h5
    have e1 : ((i : Int) + (old.length : Int)).toNat = i + old.length := by omega
    rw [e1, Int.toNat_natCast] at h5
    unfold splicedL
    rw [List.map_append, List.map_append]
    exact h5
  refine ⟨t, a5, p, _, fs, rfl, (ht.kp k5).at_, by have := gp.len; omega, h5, good_sane (goodF_iff.mpr gw), fun _ y H6 e6 hy => ?_, fun h => noE (K := K) gw h⟩
  walk_at "st"
  exact q.now (k5.trans e6) (dtDONE T _) (newT hy gw)
theorem D__splice (T : TX K mg) : DefAt P w K mg base (L2.CX P w) "_splice" 9 ["tree", "path", "old", "new"] (spSplice K) :=
  def_ofX T 19 41 sc__splice bn__splice (by walk_at "len") (b__splice T)
def spAct (K : PySem.W.Frag) : Sp := fun vs H Q E => ∃ (t a : Addr) (x : Action) (fs : List File), vs = [.ref t, .ref a] ∧ TreeG K H t fs ∧ ActAt K H a x ∧ x.sane ∧ (x.bad = none → RetA K H Q (actF fs x)) ∧ (∀ nm, x.bad = some nm → RaisesE K H E nm)
theorem sc_act : FnScope ["tree", "action"] ["tree", "action"] (defScope s_act) := ⟨rfl, rfl, rfl, by decide +kernel, rfl, by decide +kernel, by decide +kernel⟩
theorem bn_act : BindN "act" s_act ["tree", "action"] := fun _ _ _ _ _ _ us hl => match us, hl with | [_, _], _ => rfl
theorem b_act (T : TX K mg) : BodyX P w K mg base "act" s_act ["tree", "action"] 9 (spAct K) := by
  intro cdv A outer s H vs Q E h X hr tk
  obtain ⟨t, a, x, fs, rfl, ht, ha, hs, q, qb⟩ := h
  have C_Tree := C_Tree T; have D__ask := D__ask (P := P) (w := w) (base := base) T; have D__move := D__move (P := P) (w := w) (base := base) T; have D__splice := D__splice (P := P) (w := w) (base := base) T; have D__write := D__write (P := P) (w := w) (base := base) T; have D_check_action := D_check_action (P := P) (w := w) (base := base) T; have D_is_question := D_is_question (P := P) (w := w) (base := base) T; have M_Tree_lines := M_Tree_lines (P := P) (w := w) (base := base) T; have M_Tree_without := M_Tree_without (P := P) (w := w) (base := base) T
  refine ⟨_, (pss_cons (ps_expr (pe_callX D_check_action hr tk (pa_cons (pv 1) pa_nil))) (pss_cons (ps_if (pt_tru (K := K) (pe_callA D_is_question hr pass0 (pa_cons (pv 1) pa_nil))) (pss_one (ps_ret (pe_tup (pa_cons (pe_callA D__ask hr pass0 (pa_cons (pv 0) (pa_cons (pv 1) pa_nil))) (pa_cons (pv 0) pa_nil))))) pss_nil) (pss_cons (ps_if (pt_cmpR (op_eqU (K := K) hr.units) (pe_ix (ix_U (K := K)) (pv 1) pe_int (fun _ _ => rfl)) pe_str (nomark _)) (pss_one (ps_ret (pe_callX D__write hr tk (pa_cons (pv 0) (pa_cons (pe_ix (ix_U (K := K)) (pv 1) pe_int (fun _ _ => rfl)) (pa_cons (pe_ix (ix_U (K := K)) (pv 1) pe_int (fun _ _ => rfl)) pa_nil)))))) pss_nil) (pss_cons (ps_if (pt_cmpR (op_eqU (K := K) hr.units) (pe_ix (ix_U (K := K)) (pv 1) pe_int (fun _ _ => rfl)) pe_str (nomark _)) (pss_one (ps_ret (pe_callX D__move hr tk (pa_cons (pv 0) (pa_cons (pe_ix (ix_U (K := K)) (pv 1) pe_int (fun _ _ => rfl)) (pa_cons (pe_ix (ix_U (K := K)) (pv 1) pe_int (fun _ _ => rfl)) pa_nil)))))) pss_nil) (pss_cons (ps_if (pt_cmpR (op_eqU (K := K) hr.units) (pe_ix (ix_U (K := K)) (pv 1) pe_int (fun _ _ => rfl)) pe_str (nomark _)) (pss_one (ps_ret (pe_callX D__splice hr tk (pa_cons (pv 0) (pa_cons (pe_ix (ix_U (K := K)) (pv 1) pe_int (fun _ _ => rfl)) (pa_cons (pe_ix (ix_U (K := K)) (pv 1) pe_int (fun _ _ => rfl)) (pa_cons (pe_ix (ix_U (K := K)) (pv 1) pe_int (fun _ _ => rfl)) pa_nil))))))) pss_nil) (pss_cons (ps_if (pt_cmpR op_isU (pe_methS1 M_Tree_lines C_Tree hr at0 (pv 0) (pa_cons (pe_ix (ix_U (K := K)) (pv 1) pe_int (fun _ _ => rfl)) pa_nil)) pe_non (nomark _)) (pss_one (ps_ret (pe_tup (pa_cons (pe_tup (pa_cons pe_str pa_nil)) (pa_cons (pv 0) pa_nil))))) pss_nil) (pss_one (ps_ret (pe_tup (pa_cons (pe_gCon (T.glo 38)) (pa_cons (pe_methS1 M_Tree_without C_Tree hr (atW tk) (pv 0) (pa_cons (pe_ix (ix_U (K := K)) (pv 1) pe_int (fun _ _ => rfl)) pa_nil)) pa_nil))))))))))), ?_⟩
  walk_at "st"
  refine ⟨a, x, rfl, ha, hs, fun hb H1 e1 => ?_, fun nm h => qb nm h⟩
  have q := (q hb).kp e1
  have ha := ha.kp e1
  have ht := ht.kp e1
  walk_at "st"
  refine ⟨a, x, rfl, ha, ?_⟩
  walk_at "st"
  refine c_iteB (fun g => ?_) (fun g => ?_)
  · walk_at "st"
    refine ⟨t, a, x, fs, rfl, ht, ha, g, hs, fun v H2 e2 hv => ?_⟩
    walk_at "st"
    have e : actF fs x = (askF fs x, fs) := by unfold actF; rw [if_pos g]
    rw [e] at q
    exact q.now e2 hv (ht.kp e2)
  have e : actF fs x = deedF fs x := by unfold actF; rw [g]; rfl
  rw [e] at q
  cases x with
  | write p ls =>
    obtain ⟨l, ha, hl⟩ := ha
    simp only [Action.bad] at hb
    split at hb
    · rename_i hp
      split at hb
      · rename_i hls
        walk_at "dc"
        exact ⟨t, l, p, ls, fs, rfl, ht, hp, hls, hl, q⟩
      · cases hb
    · cases hb
  | move p z =>
    simp only [Action.bad] at hb
    split at hb
    · rename_i hp
      split at hb
      · rename_i hz
        walk_at "dc"
        exact ⟨t, p, z, fs, rfl, ht, hp, hz, q⟩
      · cases hb
    · cases hb
  | splice p old new =>
    obtain ⟨l, m, ha, hl, hm⟩ := ha
    simp only [Action.bad] at hb
    split at hb
    · rename_i hp
      split at hb
      · rename_i ho
        split at hb
        · rename_i hn
          walk_at "dc"
          rw [Bool.and_eq_true] at ho
          exact ⟨t, l, m, p, old, new, fs, rfl, ht, hp, ho.1, hn, hl, hm, q⟩
        · cases hb
      · cases hb
    · cases hb
  | remove p =>
    simp only [Action.bad] at hb
    split at hb
    · rename_i hp
      have gp := goodF_iff.mp ht.good
      walk_at "dc"
      refine c_recvT ht rfl ?_
      walk_at "dc"
      refine ⟨t, p, fs, rfl, ht.at_, fun g1 => ?_, fun ls la g1 hla => ?_⟩
      · walk_at "dc"
        walk_at "nw"
        intro p1 H2 N2
        walk_at "st"
        have e : deedF fs (.remove p) = (wordD "missing", fs) := by simp only [deedF, g1]; rfl
        rw [e] at q
        exact q.now N2.kp (.tup (SqT.of N2.at_) (.cons (.str _) .nil)) (ht.kp N2.kp)
      · walk_at "dc"
        refine c_recvT ht rfl ?_
        walk_at "dc"
        have e : deedF fs (.remove p) = (wordD "done", sortF (withoutF fs p)) := by simp only [deedF, g1]; rfl
        rw [e] at q
        have gw := gp.without p
        refine ⟨t, p, fs, rfl, ht.at_, by have := gp.len; omega, good_sane (goodF_iff.mpr gw), fun _ y H3 e3 hy => ?_, fun h => noE (K := K) gw h⟩
        walk_at "st"
        exact q.now e3 (dtDONE T _) (newT hy gw)
    · cases hb
  | _ => cases g
theorem D_act (T : TX K mg) : DefAt P w K mg base (L2.CX P w) "act" 10 ["tree", "action"] (spAct K) :=
  def_ofX T 20 42 sc_act bn_act (by walk_at "len") (b_act T)
end
end K36



namespace K36
open PySem L2 Sa
/-! the law's paths and lines -/
def pathNames : List Str := ["a", "b", "ab", "x1"]
def lineTexts : List Str := ["x", "y", "x y", "", "todo", "yx", "note the x", "12345678901234567890"]
/-- a path that the law draws -/
structure Pth (z : Str) : Prop where
  ex : ∃ ns : List Str, z = Txt.join (PySem.Str.ofString "/") ns ∧ 1 ≤ ns.length ∧ ns.length ≤ 3 ∧ ∀ n ∈ ns, n ∈ pathNames
theorem pathNames_len : ∀ n ∈ pathNames, n.length ≤ 2 := by decide +kernel
theorem sum_le {m : Nat} : ∀ {ns : List Str}, (∀ n ∈ ns, n.length ≤ m) → (ns.map (·.length)).sum ≤ ns.length * m
  | [], _ => Nat.zero_le _
  | n :: r, h => by
    have h1 := h n (List.mem_cons_self ..)
    have h2 := sum_le (ns := r) fun z hz => h z (List.mem_cons_of_mem _ hz)
    simp only [List.map_cons, List.sum_cons, List.length_cons, Nat.add_mul, Nat.one_mul]
    omega
theorem Pth.len {z : Str} (h : Pth z) : z.length ≤ 8 := by
  obtain ⟨ns, rfl, h1, h2, h3⟩ := h.ex
  rw [tjoin, ← join_len]
  have e1 := sum_le (m := 2) fun n hn => pathNames_len n (h3 n hn)
  have e2 : (PySem.Str.ofString "/").length = 1 := by decide
  rw [e2]
  omega
theorem pathNames_pos : ∀ n ∈ pathNames, 1 ≤ n.length := by decide +kernel
theorem Pth.pos {z : Str} (h : Pth z) : 1 ≤ z.length := by
  obtain ⟨ns, rfl, h1, h2, h3⟩ := h.ex
  rw [tjoin, ← join_len]
  cases ns with
  | nil => simp at h1
  | cons n r =>
    have := pathNames_pos n (h3 n (List.mem_cons_self ..))
    simp only [List.map_cons, List.sum_cons]
    omega
theorem Pth.parts {z : Str} (h : Pth z) (y : Str) : 1 ≤ (Txt.split z y).length := by
  cases e : Txt.split z y with
  | nil =>
    have j := StrLaws.join_split z y
    rw [e] at j
    have := h.pos
    rw [← j] at this
    exact absurd this (by show ¬ 1 ≤ 0; omega)
  | cons a r => simp
section
variable {P : Program} {w : World} {K : PySem.W.Frag} {mg : Str → Option Value} {base : Heap}
def spPath : Sp := fun vs H Q _ => ∃ (b d : Addr), vs = [.ref b] ∧ Bx H b d ∧ ∀ z H', Pth z → Kp [b] H H' → Bx H' b d → Q (.str z) H'
def spLine : Sp := fun vs H Q _ => ∃ (b d : Addr), vs = [.ref b] ∧ Bx H b d ∧ ∀ z H', z ∈ lineTexts → Kp [b] H H' → Bx H' b d → Q (.str z) H'
end
end K36



namespace K36
open PySem L2 Sa
/-! ## the law's files: a dict of paths and lines -/
def filesKv (ls : List (Addr × File)) : List (Key × V) := ls.map fun l => ((Sum.inr l.2.1 : Key), V.ref l.1)
structure FilesR (K : PySem.W.Frag) (H : Hp) (d : Addr) (fs : List File) : Prop where
  ex : ∃ ls : List (Addr × File), Rd H d (.dK (filesKv ls)) ∧ (∀ l ∈ ls, SqT K H l.1 (l.2.2.map V.str)) ∧ ls.map Prod.snd = fs
structure FilesAt (K : PySem.W.Frag) (H : Hp) (d : Addr) (fs : List File) : Prop where
  ex : ∃ ls : List (Addr × File), H d = some (.dK (filesKv ls)) ∧ (∀ l ∈ ls, SqT K H l.1 (l.2.2.map V.str)) ∧ ls.map Prod.snd = fs
section
variable {K : PySem.W.Frag} {H H' : Hp} {d b e : Addr} {fs : List File} {p : Str}
theorem FilesAt.r (h : FilesAt K H d fs) : FilesR K H d fs := by
  obtain ⟨ls, h1, h2, h3⟩ := h.ex
  exact ⟨ls, .inl h1, h2, h3⟩
theorem FilesAt.kp (h : FilesAt K H d fs) (e : Kp [] H H') : FilesAt K H' d fs := by
  obtain ⟨ls, h1, h2, h3⟩ := h.ex
  exact ⟨ls, e.at0 h1, fun l hl => SqT.kp e (h2 l hl), h3⟩
theorem FilesAt.ne (h : FilesAt K H d fs) (B : Bx H b e) : d ≠ b := fun z => by
  obtain ⟨ls, h1, _⟩ := h.ex
  obtain ⟨_, _, h2, _⟩ := B.ex
  rw [z, h2] at h1
  cases h1
theorem FilesAt.kb (h : FilesAt K H d fs) (B : Bx H b e) (k : Kp [b] H H') : FilesAt K H' d fs := by
  have n := h.ne B
  obtain ⟨ls, h1, h2, h3⟩ := h.ex
  exact ⟨ls, k.at1 n h1, fun l hl => SqT.kt (B.kt k) (h2 l hl), h3⟩
theorem find_at (ls : List (Addr × File)) (p : Str) : at? (ls.map Prod.snd) p = (ls.find? fun l => decide (l.2.1 = p)).map fun l => l.2.2 := by
  unfold at?
  rw [List.find?_map, Option.map_map]
  rfl
theorem filesKv_val (ls : List (Addr × File)) (p : Str) : valV (filesKv ls) (Sum.inr p) = (ls.find? fun l => decide (l.2.1 = p)).map fun l => V.ref l.1 := by
  unfold valV filesKv
  rw [List.find?_map, Option.map_map]
  congr 1
  congr 1
  funext l
  simp
theorem FilesR.get (h : FilesR K H d fs) {ls : List Str} (g : at? fs p = some ls) : ∃ a, DGet H d (.str p) (some (.ref a)) ∧ SqT K H a (ls.map V.str) := by
  obtain ⟨rs, h1, h2, rfl⟩ := h.ex
  rw [find_at] at g
  obtain ⟨l, hl, rfl⟩ := Option.map_eq_some_iff.mp g
  exact ⟨l.1, .inl ⟨_, Sum.inr p, h1, rfl, by rw [filesKv_val, hl]; rfl⟩, h2 l (List.mem_of_find?_eq_some hl)⟩
theorem FilesR.dget (h : FilesR K H d fs) (p : Str) : ∃ o, DGet H d (.str p) o ∧ o.isSome = (at? fs p).isSome := by
  obtain ⟨rs, h1, h2, rfl⟩ := h.ex
  refine ⟨_, .inl ⟨_, Sum.inr p, h1, rfl, rfl⟩, ?_⟩
  rw [filesKv_val, find_at, Option.isSome_map, Option.isSome_map]
theorem FilesAt.nil {K : PySem.W.Frag} (h : H d = some (.dK [])) : FilesAt K H d [] := ⟨[], h, by simp, rfl⟩
end
theorem c_dinF {K : PySem.W.Frag} {H : Hp} {d : Addr} {fs : List File} {p : Str} {Q : VK} (h : FilesR K H d fs) (q : Q (.bl (at? fs p).isSome) H) : DinK false (.ref d) (.str p) H Q := by
  obtain ⟨o, h1, h2⟩ := h.dget p
  refine ⟨d, o, rfl, h1, ?_⟩
  show Q (.bl o.isSome) H
  rw [h2]; exact q
theorem c_dninF {K : PySem.W.Frag} {H : Hp} {d : Addr} {fs : List File} {p : Str} {Q : VK} (h : FilesR K H d fs) (q : Q (.bl (!(at? fs p).isSome)) H) : DinK true (.ref d) (.str p) H Q := by
  obtain ⟨o, h1, h2⟩ := h.dget p
  refine ⟨d, o, rfl, h1, ?_⟩
  show Q (.bl (!o.isSome)) H
  rw [h2]; exact q
theorem c_dgetF {K : PySem.W.Frag} {H : Hp} {d : Addr} {fs : List File} {p : Str} {ls : List Str} {Q : VK} (h : FilesR K H d fs) (g : at? fs p = some ls) (q : ∀ a, SqT K H a (ls.map V.str) → Q (.ref a) H) : ∃ a v, V.ref d = .ref a ∧ DGet H a (.str p) (some v) ∧ Q v H := by
  obtain ⟨a, h1, h2⟩ := h.get g
  exact ⟨d, .ref a, rfl, h1, q a h2⟩
/-- sorted(files) -/
theorem c_sortedF {K : PySem.W.Frag} {H : Hp} {d : Addr} {fs : List File} {Q : VK} (h : FilesR K H d fs) (hn : fs.length ≤ 60) (q : ∀ p H', New H p (.lst ((pathsOf (sortF fs)).map V.str)) H' → Q (.ref p) H') : rSortedDU [.ref d] H Q := by
  obtain ⟨ls, h1, h2, rfl⟩ := h.ex
  refine ⟨d, _, pathsOf (ls.map Prod.snd), rfl, h1, ?_, by unfold pathsOf; rw [List.length_map]; omega, fun ys p hp hs hf => ?_⟩
  · unfold filesKv pathsOf
    rw [List.map_map, List.map_map, List.map_map]
    rfl
  · rw [sorted_keys hp hs]
    exact q p _ ⟨hf, rfl⟩
/-! ## paths -/
theorem name_no {z : Str} (h : isNameS z = true) : 47 ∉ z.cps.toList := fun hm => by
  unfold isNameS at h
  simp only [Bool.and_eq_true, List.all_eq_true] at h
  have := h.2 47 hm
  revert this
  decide +kernel
theorem name_ok {z : Str} (h : isNameS z = true) : okS z = true := okS_iff.mpr fun c hc => by
  unfold isNameS at h
  simp only [Bool.and_eq_true, List.all_eq_true, decide_eq_true_eq] at h
  have := h.2 c hc
  exact (by decide +kernel : ∀ c ∈ (PySem.Str.ofString "abcdefghijklmnopqrstuvwxyz0123456789").cps.toList, c < 1114112) c this
theorem slash1 : (PySem.Str.ofString "/").cps.toList = [47] := by decide +kernel
theorem slash2 : PySem.Str.ofString "/" = ⟨#[47]⟩ := by decide +kernel
theorem split_join1 {ns : List Str} (h0 : ns ≠ []) (hn : ∀ n ∈ ns, 47 ∉ n.cps.toList) : Txt.split (Txt.join (PySem.Str.ofString "/") ns) (PySem.Str.ofString "/") = ns :=
  TL.split_join (y := PySem.Str.ofString "/") (s := 47) (S := []) slash1 (by rw [slash2]; decide +kernel) h0 hn
theorem path_join {ns : List Str} (h0 : ns ≠ []) (h3 : ns.length ≤ 3) (hn : ∀ n ∈ ns, isNameS n = true) : isPathS (Txt.join (PySem.Str.ofString "/") ns) = true := by
  unfold isPathS
  rw [split_join1 h0 fun n h => name_no (hn n h), decide_eq_true h3, Bool.true_and, List.all_eq_true]
  exact hn
theorem split_ne {p : Str} (h : isPathS p = true) : Txt.split p (PySem.Str.ofString "/") ≠ [] := by
  rcases join_ne_nil (z := p) (y := PySem.Str.ofString "/") with h1 | h1
  · exact h1
  · exact absurd h1 (path_ne h)
theorem path_parts {p : Str} (h : isPathS p = true) : (Txt.split p (PySem.Str.ofString "/")).length ≤ 3 ∧ ∀ n ∈ Txt.split p (PySem.Str.ofString "/"), isNameS n = true := by
  unfold isPathS at h
  rw [Bool.and_eq_true, decide_eq_true_eq, List.all_eq_true] at h
  exact h
theorem name_path {n : Str} (h : isNameS n = true) : isPathS n = true := by
  have := path_join (ns := [n]) (by simp) (by simp) (by simpa using h)
  rw [tjoin] at this
  exact this
theorem mem_join {y : Str} {c : Nat} : ∀ {ys : List Str}, c ∈ (Str.join y ys).cps.toList → c ∈ y.cps.toList ∨ ∃ z ∈ ys, c ∈ z.cps.toList
  | [], h => by cases h
  | [x], h => .inr ⟨x, List.mem_singleton.mpr rfl, h⟩
  | x :: u :: r, h => by
    have h : c ∈ (x ++ y ++ Str.join y (u :: r)).cps.toList := h
    rw [cps_app, cps_app, List.mem_append, List.mem_append] at h
    rcases h with (h | h) | h
    · exact .inr ⟨x, List.mem_cons_self .., h⟩
    · exact .inl h
    · rcases mem_join h with h | ⟨z, hz, h⟩
      · exact .inl h
      · exact .inr ⟨z, List.mem_cons_of_mem _ hz, h⟩
theorem path_ok {p : Str} (h : isPathS p = true) : okS p = true := okS_iff.mpr fun c hc => by
  have j := StrLaws.join_split p (PySem.Str.ofString "/")
  rw [← j] at hc
  rcases mem_join hc with hc | ⟨z, hz, hc⟩
  · rw [slash1, List.mem_singleton] at hc
    omega
  · exact okS_iff.mp (name_ok ((path_parts h).2 z hz)) c hc
theorem Pth.path {z : Str} (h : Pth z) : isPathS z = true := by
  obtain ⟨ns, rfl, h1, h2, h3⟩ := h.ex
  exact path_join (by intro e; rw [e] at h1; simp at h1) h2 fun n hn => (by decide +kernel : ∀ n ∈ pathNames, isNameS n = true) n (h3 n hn)
theorem lineTexts_line : ∀ z ∈ lineTexts, isLineS z = true := by decide +kernel
section
variable {P : Program} {w : World} {K : PySem.W.Frag} {mg : Str → Option Value} {base : Heap}
def spLinesD (K : PySem.W.Frag) : Sp := fun vs H Q _ => ∃ (b d : Addr) (m : Int), vs = [.ref b, .int m] ∧ Bx H b d ∧ 0 ≤ m ∧ m ≤ 12 ∧ ∀ p ls H', isLinesS ls = true → (ls.length : Int) ≤ m → Kp [b] H H' → Bx H' b d → SqT K H' p (ls.map V.str) → Q (.ref p) H'
def spSome (K : PySem.W.Frag) : Sp := fun vs H Q _ => ∃ (b d f : Addr) (fs : List File), vs = [.ref b, .ref f] ∧ Bx H b d ∧ FilesAt K H f fs ∧ GoodP fs ∧ ∀ z H', isPathS z = true → Kp [b] H H' → Bx H' b d → Q (.str z) H'
def spPlace (K : PySem.W.Frag) : Sp := fun vs H Q _ => ∃ (b d f : Addr) (fs : List File), vs = [.ref b, .ref f] ∧ Bx H b d ∧ FilesAt K H f fs ∧ GoodP fs ∧ ∀ z H', isPlaceS z = true → Kp [b] H H' → Bx H' b d → Q (.str z) H'
end
end K36



namespace K36
open PySem L2 Sa
theorem place_len {z : Str} (h : isPlaceS z = true) : z.length ≤ 26 := by
  unfold isPlaceS at h
  rw [Bool.or_eq_true, decide_eq_true_eq] at h
  rcases h with rfl | h
  · decide
  · exact path_len h
theorem word_len {z : Str} (h : isWordS z = true) : z.length ≤ 12 := by
  unfold isWordS at h
  simp only [Bool.and_eq_true, decide_eq_true_eq] at h
  exact h.1.2
theorem lines_sane {ls : List Str} (h : isLinesS ls = true) : saneL ls := by
  obtain ⟨h1, h2⟩ := lines_len h
  exact ⟨by omega, fun y hy => by have := (h2 y hy).1; omega⟩
theorem path_sane {p : Str} (h : isPathS p = true) : saneS p := by have := path_len h; unfold saneS; omega
theorem place_sane {p : Str} (h : isPlaceS p = true) : saneS p := by have := place_len h; unfold saneS; omega
theorem word_sane {p : Str} (h : isWordS p = true) : saneS p := by have := word_len h; unfold saneS; omega
/-- an action within its bounds is of no great size -/
theorem bad_sane {x : Action} (h : x.bad = none) : x.sane := by
  cases x with
  | read p =>
    simp only [Action.bad] at h
    split at h
    · exact path_sane ‹_›
    · cases h
  | kind p =>
    simp only [Action.bad] at h
    split at h
    · exact place_sane ‹_›
    · cases h
  | list p =>
    simp only [Action.bad] at h
    split at h
    · exact place_sane ‹_›
    · cases h
  | count p =>
    simp only [Action.bad] at h
    split at h
    · exact place_sane ‹_›
    · cases h
  | remove p =>
    simp only [Action.bad] at h
    split at h
    · exact path_sane ‹_›
    · cases h
  | find p w =>
    simp only [Action.bad] at h
    split at h
    · split at h
      · exact ⟨place_sane ‹_›, word_sane ‹_›⟩
      · cases h
    · cases h
  | move p t =>
    simp only [Action.bad] at h
    split at h
    · split at h
      · exact ⟨path_sane ‹_›, path_sane ‹_›⟩
      · cases h
    · cases h
  | write p ls =>
    simp only [Action.bad] at h
    split at h
    · split at h
      · exact ⟨path_sane ‹_›, lines_sane ‹_›⟩
      · cases h
    · cases h
  | splice p old new =>
    simp only [Action.bad] at h
    split at h
    · split at h
      · split at h
        · rename_i h1 h2 h3
          rw [Bool.and_eq_true] at h2
          exact ⟨path_sane h1, lines_sane h2.1, lines_sane h3⟩
        · cases h
      · cases h
    · cases h
section
variable {P : Program} {w : World} {K : PySem.W.Frag} {mg : Str → Option Value} {base : Heap}
/-- an action is drawn -/
def spDrawn (K : PySem.W.Frag) (p : Action → Bool) : Sp := fun vs H Q _ => ∃ (b d f : Addr) (fs : List File), vs = [.ref b, .ref f] ∧ Bx H b d ∧ FilesAt K H f fs ∧ GoodP fs ∧ ∀ a x H', x.bad = none → p x = true → Kp [b] H H' → Bx H' b d → ActAt K H' a x → Q (.ref a) H'
def spPart (K : PySem.W.Frag) : Sp := fun vs H Q _ => ∃ (b d l : Addr) (ls : List Str), vs = [.ref b, .ref l] ∧ Bx H b d ∧ SqT K H l (ls.map V.str) ∧ isLinesS ls = true ∧ ∀ p old H', isLinesS old = true → 0 < old.length → Kp [b] H H' → Bx H' b d → SqT K H' p (old.map V.str) → Q (.ref p) H'
end
end K36



namespace K36
open PySem L2 Sa
/-! ## data that is small enough to be shown -/
structure Fit (n w : Nat) (d : PyData) : Prop where
  lay : PyData.canLay0 d = true
  dep : PyData.depth d ≤ n
  wt : PyData.weight d ≤ w
  shrt : PyData.intsShort 13 d = true
  show_ : PyData.showable d = true
structure FitAll (n w : Nat) (ds : List PyData) : Prop where
  lay : PyData.canLayAll0 ds = true
  dep : PyData.depthAll ds ≤ n
  wt : PyData.weightAll ds ≤ w
  shrt : PyData.intsShortAll 13 ds = true
  show_ : PyData.showableAll ds = true
theorem Fit.mono {n w n' w' : Nat} {d : PyData} (h : Fit n w d) (h1 : n ≤ n') (h2 : w ≤ w') : Fit n' w' d := ⟨h.lay, Nat.le_trans h.dep h1, Nat.le_trans h.wt h2, h.shrt, h.show_⟩
theorem Fit.none : Fit 0 0 .none := ⟨rfl, Nat.le_refl _, Nat.le_refl _, rfl, rfl⟩
theorem Fit.bool (b : Bool) : Fit 0 0 (.bool b) := ⟨rfl, Nat.le_refl _, Nat.le_refl _, rfl, rfl⟩
theorem Fit.str {z : Str} {w : Nat} (h : okS z = true) (hw : z.length ≤ w) : Fit 0 w (.str z) := ⟨by unfold PyData.canLay0; exact h, Nat.le_refl _, by unfold PyData.weight; exact hw, by simp only [PyData.intsShort], by simp only [PyData.showable]⟩
theorem nat_short : ∀ n ∈ List.range 1000, (PyData.shown (.int ((n : Nat) : Int))).length ≤ 13 ∧ ((n : Nat) : Int).natAbs.log2 < 1920 ∧ PyData.weight (.int ((n : Nat) : Int)) ≤ 10 := by decide +kernel
theorem Fit.nat {n : Nat} (h : n < 1000) : Fit 0 10 (.int (n : Nat)) := by
  obtain ⟨h1, h2, h3⟩ := nat_short n (List.mem_range.mpr h)
  exact ⟨by simp only [PyData.canLay0], Nat.le_refl _, h3, by simp only [PyData.intsShort, decide_eq_true_eq]; exact h1, by simp only [PyData.showable, decide_eq_true_eq]; exact h2⟩
theorem FitAll.nil {n : Nat} : FitAll n 0 [] := ⟨by simp only [PyData.canLayAll0], Nat.zero_le _, Nat.le_refl _, by simp only [PyData.intsShortAll], by simp only [PyData.showableAll]⟩
theorem FitAll.cons {n w v : Nat} {d : PyData} {ds : List PyData} (h : Fit n w d) (g : FitAll n v ds) : FitAll n (w + 1 + v) (d :: ds) :=
  ⟨by simp only [PyData.canLayAll0, h.lay, g.lay, Bool.and_self], by simp only [PyData.depthAll]; exact Nat.max_le.mpr ⟨h.dep, g.dep⟩, by simp only [PyData.weightAll]; have := h.wt; have := g.wt; omega, by simp only [PyData.intsShortAll, h.shrt, g.shrt, Bool.and_self], by simp only [PyData.showableAll, h.show_, g.show_, Bool.and_self]⟩
theorem FitAll.of {n w : Nat} : ∀ {ds : List PyData}, (∀ d ∈ ds, Fit n w d) → FitAll n ((w + 1) * ds.length) ds
  | [], _ => FitAll.nil
  | d :: r, h => by
    have g := FitAll.cons (h d (List.mem_cons_self ..)) (FitAll.of fun e he => h e (List.mem_cons_of_mem _ he))
    rw [List.length_cons, Nat.mul_add, Nat.mul_one]
    exact ⟨g.lay, g.dep, by have := g.wt; omega, g.shrt, g.show_⟩
theorem FitAll.mono {n w n' w' : Nat} {ds : List PyData} (h : FitAll n w ds) (h1 : n ≤ n') (h2 : w ≤ w') : FitAll n' w' ds := ⟨h.lay, Nat.le_trans h.dep h1, Nat.le_trans h.wt h2, h.shrt, h.show_⟩
theorem FitAll.tup {n w : Nat} {ds : List PyData} (h : FitAll n w ds) : Fit (n + 1) w (.tuple ds) :=
  ⟨by simp only [PyData.canLay0, h.lay], by simp only [PyData.depth]; have := h.dep; omega, by simp only [PyData.weight]; exact h.wt, by simp only [PyData.intsShort, h.shrt], by simp only [PyData.showable, h.show_]⟩
theorem FitAll.lst {n w : Nat} {ds : List PyData} (h : FitAll n w ds) : Fit (n + 1) w (.list ds) :=
  ⟨by simp only [PyData.canLay0, h.lay], by simp only [PyData.depth]; have := h.dep; omega, by simp only [PyData.weight]; exact h.wt, by simp only [PyData.intsShort, h.shrt], by simp only [PyData.showable, h.show_]⟩
theorem Fit.tup {n w m : Nat} {ds : List PyData} (h : ∀ d ∈ ds, Fit n w d) (hl : ds.length ≤ m) : Fit (n + 1) ((w + 1) * m) (.tuple ds) := ((FitAll.of h).mono (Nat.le_refl _) (Nat.mul_le_mul_left _ hl)).tup
theorem Fit.nice {n w : Nat} {d : PyData} (h : Fit n w d) (hn : n ≤ 64) (hw : w ≤ 1048576) : Nice d := by
  refine ⟨?_, h.shrt, h.show_⟩
  unfold PyData.layable0
  have e : (2 : Nat) ^ 20 = 1048576 := by decide
  rw [h.lay, decide_eq_true (Nat.le_trans h.dep hn), e, decide_eq_true (Nat.le_trans h.wt hw)]
  rfl
theorem Fit.shaped {n w : Nat} {d : PyData} (h : Fit n w d) (hn : n ≤ 64) : SeqAt.shaped d = true := by
  unfold SeqAt.shaped
  rw [h.lay, decide_eq_true (Nat.le_trans h.dep hn)]
  rfl
theorem Fit.strs {ys : List Str} {w m : Nat} (h : ∀ y ∈ ys, okS y = true ∧ y.length ≤ w) (hl : ys.length ≤ m) : Fit 1 ((w + 1) * m) (strsD ys) :=
  Fit.tup (fun d hd => by obtain ⟨y, hy, rfl⟩ := List.mem_map.mp hd; exact Fit.str (h y hy).1 (h y hy).2) (by rw [List.length_map]; exact hl)
/-! ## what answers are -/
theorem Fit.word {z : Str} (h : okS z = true) (hl : z.length ≤ 11) : Fit 1 12 (wordD z) := Fit.tup (m := 1) (fun d hd => by rw [List.mem_singleton.mp hd]; exact Fit.str h hl) (by simp)
theorem sub_ok {x : Str} {i j : Nat} (h : okS x = true) : okS (PySem.Builtin.Str.strSub x i j) = true := okS_iff.mpr fun c hc => by
  refine okS_iff.mp h c ?_
  have hc : c ∈ (x.cps.extract i j).toList := hc
  rw [Array.toList_extract] at hc
  exact List.mem_of_mem_drop (List.mem_of_mem_take hc)
theorem part_ok {x y : Str} (h : okS x = true) (hy : okS y = true) : okS (Txt.partition x y).1 = true ∧ okS (Txt.partition x y).2.1 = true := by
  rcases PyProof.Rows.partition_whole x y with ⟨e, _⟩ | ⟨i, e, _⟩
  · rw [e]; exact ⟨h, (by decide +kernel : okS Str.empty = true)⟩
  · rw [e]; exact ⟨sub_ok h, hy⟩
theorem cutS_ok {x : Str} {lo hi : Option Int} (h : okS x = true) : okS (cutS x lo hi) = true := okS_iff.mpr fun c hc => by
  refine okS_iff.mp h c ?_
  rw [txt_of x, cutS_txt, txt_cps] at hc
  exact List.mem_of_mem_drop (List.mem_of_mem_take hc)
theorem app_ok {x y : Str} (h : okS x = true) (hy : okS y = true) : okS (x ++ y) = true := okS_iff.mpr fun c hc => by
  rw [cps_app, List.mem_append] at hc
  exact hc.elim (okS_iff.mp h c) (okS_iff.mp hy c)
theorem first_ok {z p : Str} (h : okS p = true) (hl : p.length ≤ 26) : okS (firstN z p) = true ∧ (firstN z p).length ≤ 27 := by
  have c1 := cutS_ok (lo := some (startN z)) (hi := none) h
  obtain ⟨o1, o2⟩ := part_ok c1 (y := PySem.Str.ofString "/") (by decide +kernel)
  have l := part_len (cutS p (some (startN z)) none) (PySem.Str.ofString "/")
  have cl := cutS_len p (some (startN z)) none
  have e1 : (PySem.Str.ofString "/").length = 1 := by decide
  exact ⟨app_ok o1 o2, by unfold firstN; rw [str_app_len]; omega⟩
theorem ded_sub (xs : List Str) : ∀ x ∈ ded xs, x ∈ xs := by
  have : ∀ (xs σ : List Str), ∀ x ∈ xs.foldl stepT σ, x ∈ σ ∨ x ∈ xs := by
    intro xs
    induction xs with
    | nil => intro σ x hx; exact .inl hx
    | cons y r ih =>
      intro σ x hx
      rcases ih _ x hx with h | h
      · unfold stepT at h
        split at h
        · exact .inl h
        · rcases List.mem_append.mp h with h | h
          · exact .inl h
          · rw [List.mem_singleton.mp h]; exact .inr (List.mem_cons_self ..)
      · exact .inr (List.mem_cons_of_mem _ h)
  intro x hx
  rcases this xs [] x hx with h | h
  · cases h
  · exact h
theorem fit_rows {p w : Str} {ls : List Str} (hp : isPathS p = true) (hl : ls.length ≤ 12) : (rowsD p ls w).length ≤ 12 ∧ ∀ d ∈ rowsD p ls w, Fit 1 54 d := by
  unfold rowsD
  constructor
  · rw [List.length_map]
    have := List.length_filter_le (fun i => occS (ls.getD i Str.empty) w) (List.range ls.length)
    rw [List.length_range] at this
    omega
  · intro d hd
    obtain ⟨i, hi, rfl⟩ := List.mem_map.mp hd
    have hi : i < ls.length := List.mem_range.mp (List.mem_filter.mp hi).1
    refine Fit.tup (w := 26) (m := 2) (fun e he => ?_) (by simp)
    simp only [List.mem_cons, List.not_mem_nil, or_false] at he
    rcases he with rfl | rfl
    · exact Fit.str (path_ok hp) (path_len hp)
    · exact (Fit.nat (by omega)).mono (Nat.le_refl _) (by omega)
theorem flat_len {α β : Type} (f : α → List β) (m : Nat) : ∀ xs : List α, (∀ x ∈ xs, (f x).length ≤ m) → (xs.flatMap f).length ≤ m * xs.length
  | [], _ => by simp
  | x :: r, h => by
    have h1 := h x (List.mem_cons_self ..)
    have h2 := flat_len f m r fun y hy => h y (List.mem_cons_of_mem _ hy)
    rw [List.flatMap_cons, List.length_append, List.length_cons, Nat.mul_add, Nat.mul_one]
    omega
theorem inside_len {fs : List File} (h : GoodP fs) (z : Str) : (insideF fs z).length ≤ 20 := by
  have h1 := List.length_filter_le (fun y => isInsideS y z) (pathsOf fs)
  have h2 := h.len
  have h3 : (pathsOf fs).length = fs.length := List.length_map ..
  unfold insideF
  omega
theorem fit_two {w : Str} {d : PyData} {n m : Nat} (h : okS w = true) (hl : w.length ≤ 11) (hd : Fit n m d) (hm : 11 ≤ m) : Fit (n + 1) ((m + 1) * 2) (.tuple [.str w, d]) :=
  Fit.tup (fun e he => by
    simp only [List.mem_cons, List.not_mem_nil, or_false] at he
    rcases he with rfl | rfl
    · exact (Fit.str h hl).mono (Nat.zero_le _) hm
    · exact hd) (by simp)
theorem fit_ask {fs : List File} (h : GoodP fs) (x : Action) : Fit 3 30000 (askF fs x) := by
  have no : Fit 3 30000 (wordD "none") := (Fit.word (by decide +kernel) (by decide)).mono (by omega) (by omega)
  cases x with
  | read p =>
    simp only [askF]
    split
    · exact no
    · rename_i ls g
      obtain ⟨l1, l2⟩ := lines_len (h.lines _ (at_mem g))
      exact (fit_two (by decide +kernel) (by decide) (Fit.strs (w := 20) (m := 12) (fun y hy => ⟨plain_ok (l2 y hy).2, (l2 y hy).1⟩) l1) (by omega)).mono (by omega) (by omega)
  | kind z =>
    simp only [askF]
    split
    · exact (Fit.word (by decide +kernel) (by decide)).mono (by omega) (by omega)
    · split
      · exact (Fit.word (by decide +kernel) (by decide)).mono (by omega) (by omega)
      · exact no
  | list z =>
    simp only [askF]
    split
    · refine (fit_two (by decide +kernel) (by decide) (Fit.strs (ys := namesF fs z) (w := 27) (m := 20) (fun y hy => ?_) ?_) (by omega)).mono (by omega) (by omega)
      · have h1 := ded_sub _ y ((sortS_perm _).subset hy)
        obtain ⟨p, hp, rfl⟩ := List.mem_map.mp h1
        obtain ⟨f, hf, rfl⟩ := List.mem_map.mp (List.mem_filter.mp hp).1
        exact first_ok (path_ok (h.path f hf)) (path_len (h.path f hf))
      · unfold namesF
        rw [sortS_len]
        have := ded_le ((insideF fs z).map (firstN z))
        rw [List.length_map] at this
        have := inside_len h z
        omega
    · exact no
  | count z =>
    simp only [askF]
    split
    · have := inside_len h z
      exact (fit_two (by decide +kernel) (by decide) ((Fit.nat (n := (insideF fs z).length) (by omega)).mono (Nat.le_refl _) (by omega : 10 ≤ 11)) (by omega)).mono (by omega) (by omega)
    · exact no
  | find z w =>
    simp only [askF]
    split
    · have rows : ∀ p ∈ foundPs fs z, (rowsD p ((at? fs p).getD []) w).length ≤ 12 ∧ ∀ d ∈ rowsD p ((at? fs p).getD []) w, Fit 1 54 d := fun p hp => by
        obtain ⟨ls, hls⟩ := foundPs_mem hp
        rw [hls]
        exact fit_rows (h.path _ (at_mem hls)) (lines_len (h.lines _ (at_mem hls))).1
      have fl : (foundPs fs z).length ≤ 21 := by
        unfold foundPs
        rw [sortS_len, List.length_append]
        have := inside_len h z
        split
        · rw [List.length_singleton]; omega
        · rw [List.length_nil]; omega
      have h1 := flat_len (fun p => rowsD p ((at? fs p).getD []) w) 12 (foundPs fs z) fun p hp => (rows p hp).1
      refine (fit_two (by decide +kernel) (by decide) (Fit.tup (n := 1) (w := 54) (m := 252) (ds := foundF fs z w) (fun d hd => ?_) ?_) (by omega)).mono (by omega) (by omega)
      · obtain ⟨p, hp, hd⟩ := List.mem_flatMap.mp hd
        exact (rows p hp).2 d hd
      · unfold foundF
        omega
    · exact no
  | _ => exact no
theorem fit_act {fs : List File} (h : GoodP fs) (x : Action) : Fit 3 30000 (actF fs x).1 := by
  have wd : ∀ z : Str, z ∈ (["none", "done", "missing", "blocked", "full", "absent", "ambiguous", "long"] : List Str) → Fit 3 30000 (wordD z) := fun z hz => by
    have := (by decide +kernel : ∀ z ∈ (["none", "done", "missing", "blocked", "full", "absent", "ambiguous", "long"] : List Str), okS z = true ∧ z.length ≤ 11) z hz
    exact (Fit.word this.1 this.2).mono (by omega) (by omega)
  unfold actF
  split
  · exact fit_ask h x
  · cases x with
    | write p ls =>
      simp only [deedF]
      split
      · exact wd _ (by decide +kernel)
      · split <;> exact wd _ (by decide +kernel)
    | remove p =>
      simp only [deedF]
      split <;> exact wd _ (by decide +kernel)
    | move p t =>
      simp only [deedF]
      split
      · exact wd _ (by decide +kernel)
      · split <;> exact wd _ (by decide +kernel)
    | splice p old new =>
      simp only [deedF]
      split
      · exact wd _ (by decide +kernel)
      · split
        · exact wd _ (by decide +kernel)
        · split <;> exact wd _ (by decide +kernel)
        · exact wd _ (by decide +kernel)
    | _ => exact wd _ (by decide +kernel)
/-- rows of files as data -/
def fileD (f : File) : PyData := .tuple [.str f.1, strsD f.2]
def rowsOfD (fs : List File) : PyData := .tuple (fs.map fileD)
theorem fit_files {fs : List File} (h : GoodP fs) : Fit 3 20000 (rowsOfD fs) := by
  refine (Fit.tup (n := 2) (w := 600) (m := 20) (fun d hd => ?_) (by rw [List.length_map]; exact h.len)).mono (by omega) (by omega)
  obtain ⟨f, hf, rfl⟩ := List.mem_map.mp hd
  obtain ⟨l1, l2⟩ := lines_len (h.lines f hf)
  refine (Fit.tup (n := 1) (w := 252) (m := 2) (fun d hd => ?_) (by simp)).mono (by omega) (by omega)
  simp only [List.mem_cons, List.not_mem_nil, or_false] at hd
  rcases hd with rfl | rfl
  · exact (Fit.str (path_ok (h.path f hf)) (path_len (h.path f hf))).mono (by omega) (by omega)
  · exact (Fit.strs (w := 20) (m := 12) (fun y hy => ⟨plain_ok (l2 y hy).2, (l2 y hy).1⟩) l1).mono (by omega) (by omega)
theorem dt_rows {K : PySem.W.Frag} {H : Hp} {p : Addr} {fs : List File} (rs : List RowA) (h : SqT K H p (rs.map fun r => V.ref r.1)) (e : rs.map (fun r => r.2.2) = fs) (hr : ∀ r ∈ rs, RowOk K H r) : Dt K H (.ref p) (rowsOfD fs) := by
  subst e
  refine .tup h ?_
  clear h
  induction rs with
  | nil => exact .nil
  | cons r t ih =>
    have h1 := hr r (List.mem_cons_self ..)
    exact .cons (.tup h1.row (.cons (.str _) (.cons (dt_strs h1.lines) .nil))) (ih fun q hq => hr q (List.mem_cons_of_mem _ hq))
end K36




namespace K36
open PySem L2 Sa
theorem law_cut (x y : Str) : decide (cutS x none (some ((y.length : Int) + 1)) = y ++ PySem.Str.ofString "/") = Txt.startswith x (y ++ PySem.Str.ofString "/") := by
  rw [← cut_starts, str_app_len]
  have e1 : (PySem.Str.ofString "/").length = 1 := by decide
  rw [e1]
  rfl
def lawBlocked (ps : List Str) (p : Str) : Bool := ps.any fun o => !decide (o = p) && (isInsideS o p || isInsideS p o)
theorem lawBlocked_eq {fs : List File} {p : Str} (hp : isPathS p = true) : lawBlocked (pathsOf fs) p = blockedF fs p := by
  unfold lawBlocked blockedF insideF aboveF
  have e : ∀ q : Str → Bool, decide (0 < ((pathsOf fs).filter q).length) = (pathsOf fs).any q := fun q => by
    rw [Bool.eq_iff_iff, decide_eq_true_eq, List.any_eq_true, List.length_pos_iff_exists_mem]
    constructor
    · rintro ⟨a, ha⟩; exact ⟨a, (List.mem_filter.mp ha).1, (List.mem_filter.mp ha).2⟩
    · rintro ⟨a, h1, h2⟩; exact ⟨a, List.mem_filter.mpr ⟨h1, h2⟩⟩
  rw [e, e, Bool.eq_iff_iff, Bool.or_eq_true, List.any_eq_true, List.any_eq_true, List.any_eq_true]
  have so := self_out hp
  constructor
  · rintro ⟨o, h1, h2⟩
    rw [Bool.and_eq_true, Bool.or_eq_true] at h2
    exact h2.2.elim (fun h => .inl ⟨o, h1, h⟩) (fun h => .inr ⟨o, h1, h⟩)
  · have ne : ∀ o, isInsideS o p = true ∨ isInsideS p o = true → o ≠ p := fun o h e => by
      subst e
      rw [so] at h
      rcases h with h | h <;> cases h
    rintro (⟨o, h1, h2⟩ | ⟨o, h1, h2⟩)
    · exact ⟨o, h1, by rw [h2, decide_eq_false (ne o (.inl h2))]; rfl⟩
    · exact ⟨o, h1, by rw [h2, decide_eq_false (ne o (.inr h2)), Bool.or_true]; rfl⟩
theorem itn_ks {d : Addr} {od : Obj} {ls : List (Addr × File)} : Itn (Itk d od (filesKv ls)) ls.length (fun H => H d = some (.frz od (.dK (filesKv ls)))) (Yq ls fun l => V.str l.2.1) := itn_k (f := fun l : Addr × File => (Sum.inr l.2.1 : Key)) (g := fun l => V.ref l.1)
section
variable {P : Program} {w : World} {K : PySem.W.Frag} {mg : Str → Option Value} {base : Heap}
def spLInside : Sp := fun vs H Q _ => ∃ x y : Str, vs = [.str x, .str y] ∧ x.length ≤ 1000 ∧ y.length ≤ 1000 ∧ Q (.bl (isInsideS x y)) H
def spLBlocked (K : PySem.W.Frag) : Sp := fun vs H Q _ => ∃ (f : Addr) (p : Str) (fs : List File), vs = [.ref f, .str p] ∧ FilesAt K H f fs ∧ (∀ o ∈ pathsOf fs, o.length ≤ 1000) ∧ p.length ≤ 1000 ∧ Q (.bl (lawBlocked (pathsOf fs) p)) H
def spLBlockedL (K : PySem.W.Frag) : Sp := fun vs H Q _ => ∃ (f : Addr) (p : Str) (ps : List Str), vs = [.ref f, .str p] ∧ SqL K H f (ps.map V.str) ∧ (∀ o ∈ ps, o.length ≤ 1000) ∧ p.length ≤ 1000 ∧ Q (.bl (lawBlocked ps p)) H
theorem lb_yes {ps : List Str} {p o : Str} (h : o ∈ ps) (h1 : o ≠ p) (h2 : (isInsideS o p || isInsideS p o) = true) : lawBlocked ps p = true := List.any_eq_true.mpr ⟨o, h, by rw [h2, decide_eq_false h1]; rfl⟩
theorem lb_snoc {ps : List Str} {p o : Str} {i : Nat} (h : ps[i]? = some o) (g : lawBlocked (ps.take i) p = false) (n : (!decide (o = p) && (isInsideS o p || isInsideS p o)) = false) : lawBlocked (ps.take (i + 1)) p = false := by
  unfold lawBlocked at g ⊢
  rw [take_succ' h, List.any_append, g, Bool.false_or, List.any_cons, n]
  rfl
end
/-! ## a file put -/
def putR (fs : List File) (p : Str) (ls : List Str) : List File := if fs.any (fun f => decide (f.1 = p)) = true then fs.map (fun f => if f.1 = p then (p, ls) else f) else fs ++ [(p, ls)]
def putA (rs : List (Addr × File)) (p : Str) (a : Addr) (ls : List Str) : List (Addr × File) := if rs.any (fun r => decide (r.2.1 = p)) = true then rs.map (fun r => if r.2.1 = p then (a, (p, ls)) else r) else rs ++ [(a, (p, ls))]
theorem putA_snd (rs : List (Addr × File)) (p : Str) (a : Addr) (ls : List Str) : (putA rs p a ls).map Prod.snd = putR (rs.map Prod.snd) p ls := by
  unfold putA putR
  rw [List.any_map]
  have e : ((fun f : File => decide (f.1 = p)) ∘ Prod.snd) = fun r : Addr × File => decide (r.2.1 = p) := rfl
  rw [e]
  split
  · rw [List.map_map, List.map_map]
    congr 1
    funext r
    simp only [Function.comp]
    split <;> rfl
  · rw [List.map_append]; rfl
theorem putA_kv (rs : List (Addr × File)) (p : Str) (a : Addr) (ls : List Str) : filesKv (putA rs p a ls) = putK (filesKv rs) (Sum.inr p) (.ref a) := by
  unfold putA putK filesKv
  rw [List.any_map]
  have e : ((fun kv : Key × V => decide (kv.1 = (Sum.inr p : Key))) ∘ fun l : Addr × File => ((Sum.inr l.2.1 : Key), V.ref l.1)) = fun r : Addr × File => decide (r.2.1 = p) := by
    funext r
    simp
  rw [e]
  split
  · rw [List.map_map, List.map_map]
    congr 1
    funext r
    simp only [Function.comp, Sum.inr.injEq]
    split
    · rename_i h; rw [h]
    · rfl
  · rw [List.map_append]; rfl
theorem putR_perm {fs : List File} (h : Once fs) (p : Str) (ls : List Str) : (putR fs p ls).Perm (withF fs p ls) := by
  unfold putR withF withoutF
  split
  · rename_i hp
    induction fs with
    | nil => simp at hp
    | cons f r ih =>
      obtain ⟨h1, h2⟩ := List.nodup_cons.mp (show (f.1 :: r.map Prod.fst).Nodup from h)
      by_cases e : f.1 = p
      · have hr : ∀ g ∈ r, ¬ g.1 = p := fun g hg e2 => h1 (by rw [e, ← e2]; exact List.mem_map_of_mem (f := Prod.fst) hg)
        rw [List.map_cons, if_pos e, List.filter_cons_of_neg (by simp [e])]
        have e1 : r.map (fun f => if f.1 = p then (p, ls) else f) = r := by
          conv => rhs; rw [← List.map_id r]
          exact List.map_congr_left fun g hg => by rw [if_neg (hr g hg)]; rfl
        have e2 : r.filter (fun f => !decide (f.1 = p)) = r := List.filter_eq_self.mpr fun g hg => by rw [decide_eq_false (hr g hg)]; rfl
        rw [e1, e2]
        exact (List.perm_append_singleton (p, ls) r).symm
      · rw [List.map_cons, if_neg e, List.filter_cons_of_pos (by simp [e]), List.cons_append]
        refine List.Perm.cons f (ih h2 ?_)
        rw [List.any_cons, decide_eq_false e, Bool.false_or] at hp
        exact hp
  · rename_i hp
    have e2 : fs.filter (fun f => !decide (f.1 = p)) = fs := List.filter_eq_self.mpr fun g hg => by
      rw [List.any_eq_true] at hp
      cases q : decide (g.1 = p) with
      | false => rfl
      | true => exact absurd ⟨g, hg, q⟩ hp
    rw [e2]
theorem GoodP.put {fs : List File} {p : Str} {ls : List Str} (h : GoodP fs) (hp : isPathS p = true) (hl : isLinesS ls = true) (nb : lawBlocked (pathsOf fs) p = false) (hn : fs.length < 20 ∨ (at? fs p).isSome = true) : GoodP (putR fs p ls) :=
  (h.withf hp hl (nob (by rw [← lawBlocked_eq hp]; exact nb)) hn).perm (putR_perm h.once p ls).symm
theorem putR_len (fs : List File) (p : Str) (ls : List Str) : (putR fs p ls).length ≤ fs.length + 1 := by
  unfold putR
  split
  · rw [List.length_map]; omega
  · rw [List.length_append]; exact Nat.le_refl _
section
variable {K : PySem.W.Frag} {H : Hp} {f la : Addr} {fs : List File} {p : Str} {ls : List Str} {R : Hp → Prop}
/-- files[p] = lines -/
theorem c_putF (h : FilesAt K H f fs) (hn : fs.length ≤ 1000) (hl : SqT K H la (ls.map V.str)) (q : ∀ H', Kp [f] H H' → Kt H H' → FilesAt K H' f (putR fs p ls) → (∀ a o, a ≠ f → H' a = some o → H a = some o) → R H') : ∃ a H4, V.ref f = .ref a ∧ DPut H a (.str p) (.ref la) H4 ∧ R H4 := by
  obtain ⟨rs, h1, h2, rfl⟩ := h.ex
  have kt : ∀ o, Kt H (upd H f o) := fun o => Kt.upd1 (NoT.dK h1)
  refine c_dputAt h1 (by rw [sizeLine_eq]; unfold filesKv; rw [List.length_map] at hn ⊢; omega) ?_
  rw [← putA_kv rs p la ls]
  refine q _ (Kp.mut (by simp)) (kt _) ⟨putA rs p la ls, upd_same, fun r hr => ?_, putA_snd rs p la ls⟩ (fun a o ha ho => by rw [upd_ne ha] at ho; exact ho)
  unfold putA at hr
  split at hr
  · obtain ⟨r0, hr0, rfl⟩ := List.mem_map.mp hr
    split
    · exact SqT.kt (kt _) hl
    · exact SqT.kt (kt _) (h2 r0 hr0)
  · rcases List.mem_append.mp hr with hr | hr
    · exact SqT.kt (kt _) (h2 r hr)
    · rw [List.mem_singleton.mp hr]; exact SqT.kt (kt _) hl
end
section
variable {P : Program} {w : World} {K : PySem.W.Frag} {mg : Str → Option Value} {base : Heap}
def spFiles (K : PySem.W.Frag) : Sp := fun vs H Q _ => ∃ (b d : Addr) (m : Int), vs = [.ref b, .int m] ∧ Bx H b d ∧ 0 ≤ m ∧ m ≤ 12 ∧ ∀ f fs H', GoodP fs → (fs.length : Int) ≤ m → FilesAt K H' f fs → Kp [b] H H' → Bx H' b d → H f = none → Q (.ref f) H'
def spLRows (K : PySem.W.Frag) : Sp := fun vs H Q _ => ∃ (f : Addr) (fs : List File), vs = [.ref f] ∧ FilesAt K H f fs ∧ Once fs ∧ fs.length ≤ 60 ∧ ∀ p H' (rs : List RowA), Kp [] H H' → SqT K H' p (rs.map fun r => V.ref r.1) → rs.map (fun r => r.2.2) = sortF fs → (∀ r ∈ rs, RowOk K H' r) → Q (.ref p) H'
theorem sc__law_files : FnScope ["_law_table_here", "_law_path_here"] ["_law_table_here"] (defScope s__law_files) := ⟨rfl, rfl, rfl, by decide +kernel, rfl, by decide +kernel, by decide +kernel⟩
theorem bn__law_files : BindN "_law_files" s__law_files ["_law_table_here"] := fun _ _ _ _ _ _ us hl => match us, hl with | [_], _ => rfl
theorem b__law_files (T : TX K mg) : Body P w K mg base "_law_files" s__law_files ["_law_table_here", "_law_path_here"] 1 (spLRows K) := by
  intro cdv A outer s H vs Q E h X hr
  obtain ⟨f, fs, rfl, F, ho, hn, q⟩ := h
  refine ⟨_, (pss_one (ps_ret (pe_callTy (cr_tuple (K := K)) rfl (T.free 28) (by decide +kernel) (pa_cons (pe_lc (own := [("_law_path_here", 1)]) rfl sc__law_files.nd (pi_listU (K := K) (pe_callB (cr_sortedDU rfl) rfl (T.free 30) (by decide +kernel) (pa_cons (pv 0) pa_nil))) (blkOk_by (N := ["_law_table_here", "_law_path_here"]) (sc := defScope s__law_files) (by decide +kernel)) (fun _ _ _ _ _ => (pg_name (i := 1) sc__law_files.nd rfl (Or.inl rfl))) (fun _ _ _ _ _ => pts_nil) (fun _ _ _ _ _ => (pe_tup (pa_cons (pv 1) (pa_cons (pe_dget (hu_of hr) (pv 0) (pv 1) (fun _ _ => rfl)) pa_nil))))) pa_nil)))), ?_⟩
  obtain ⟨ls, hf, hls, rfl⟩ := id F.ex
  walk_at "st"
  refine c_sortedF F.r hn fun p H1 N1 => ?_
  have hn2 : ls.length ≤ 60 := by rw [List.length_map] at hn; exact hn
  walk_at "st"
  generalize hfs : sortF (ls.map Prod.snd) = fs at *
  have hmem : ∀ r ∈ fs, r ∈ ls.map Prod.snd := fun r hr => (sortF_perm (ls.map Prod.snd)).subset (hfs ▸ hr)
  have hlen : fs.length = ls.length := by rw [← hfs, sortF_len, List.length_map]
  let d0 : File := (Str.empty, [])
  have hp1 : SqL K H1 p (fs.map fun r => V.str r.1) := by
    have := N1.at_
    unfold pathsOf at this
    rw [List.map_map] at this
    exact SqL.of this
  refine lcQ_new (itn_l (ys := fs) (u := fun r => V.str r.1)) (fun i => .tup [.str (fs.getD i d0).1, .ref (linesAt ls (fs.getD i d0).1)]) (by omega) (fun H' e => SqL.kp e hp1) (fun i y H' H'' R S hi e z k => ?_) (fun D qs H2 hD e2 hacc hql hqs => ?_)
  · obtain ⟨rfl, r, hr, rfl⟩ := z
    have k0 : Kp [] H H'' := N1.kp.trans e
    obtain ⟨l, hl1, rfl, hl3, hl4⟩ := linesAt_ok ho (hmem r (List.mem_of_getElem? hr))
    walk_at "st"
    refine ⟨rfl, ?_⟩
    walk_at "st"
    refine ⟨f, .ref l.1, rfl, .inl ⟨_, Sum.inr l.2.1, .inl (k0.at0 hf), rfl, by rw [filesKv_val, hl3]; rfl⟩, ?_⟩
    walk_at "st"
    walk_at "nw"
    intro q4 H4 N
    refine k q4 H4 N.fr N.kp ?_
    rw [N.at_, getD_of (d := d0) hr, hl4]
  walk_at "st"
  refine c_tupleL (SqL.of hacc) fun p3 H3 N3 => ?_
  have kk : Kp [] H H3 := (N1.kp.trans e2).trans N3.kp
  refine q p3 H3 (List.zipWith (fun q f => (q, linesAt ls f.1, f)) qs fs) kk ?_ ?_ ?_
  · have : (List.zipWith (fun q f => (q, linesAt ls f.1, f)) qs fs).map (fun r : RowA => V.ref r.1) = qs.map V.ref := by
      rw [List.map_zipWith]
      apply List.ext_getElem?
      intro i
      rw [List.getElem?_zipWith, List.getElem?_map]
      by_cases hi : i < qs.length
      · rw [List.getElem?_eq_getElem hi, List.getElem?_eq_getElem (by omega)]
        rfl
      · rw [List.getElem?_eq_none (by omega)]
        rfl
    rw [this]
    exact SqT.of N3.at_
  · rw [List.map_zipWith]
    apply List.ext_getElem?
    intro i
    rw [List.getElem?_zipWith]
    by_cases hi : i < fs.length
    · rw [List.getElem?_eq_getElem hi, List.getElem?_eq_getElem (by omega)]
    · rw [List.getElem?_eq_none (l := fs) (by omega), List.getElem?_eq_none (l := qs) (by omega)]
  · intro r hr
    obtain ⟨i, hi, e⟩ := List.mem_iff_getElem.mp hr
    rw [List.getElem_zipWith] at e
    subst e
    rw [List.length_zipWith] at hi
    have hiq : i < qs.length := by omega
    have hif : i < fs.length := by omega
    obtain ⟨_, a2⟩ := hqs i _ (List.getElem?_eq_getElem hiq)
    rw [getD_of (d := d0) (List.getElem?_eq_getElem hif)] at a2
    obtain ⟨l, hl1, hl2, hl3, hl4⟩ := linesAt_ok ho (hmem _ (List.getElem_mem hif))
    refine ⟨SqT.of (N3.keep a2), ?_⟩
    show SqT K H3 (linesAt ls (fs[i]).1) ((fs[i]).2.map V.str)
    rw [hl4, ← hl2]
    exact SqT.kp kk (hls l hl1)
theorem D__law_files (T : TX K mg) : DefAt P w K mg base CX0 "_law_files" 2 ["_law_table_here"] (spLRows K) :=
  def_of T 46 71 sc__law_files bn__law_files (by walk_at "len") (b__law_files T)
end
end K36



namespace K36
open PySem L2 Sa
/-! ## what the files say, in whatever order they lie -/
theorem paths_perm {fs gs : List File} (h : fs.Perm gs) : (pathsOf fs).Perm (pathsOf gs) := h.map Prod.fst
theorem any_perm {α : Type} {xs ys : List α} (h : xs.Perm ys) (p : α → Bool) : xs.any p = ys.any p := by
  rw [Bool.eq_iff_iff, List.any_eq_true, List.any_eq_true]
  exact ⟨fun ⟨a, h1, h2⟩ => ⟨a, h.subset h1, h2⟩, fun ⟨a, h1, h2⟩ => ⟨a, h.symm.subset h1, h2⟩⟩
theorem folder_any (fs : List File) (z : Str) : isFolderF fs z = (decide (z = PySem.Str.ofString "") || (pathsOf fs).any fun y => isInsideS y z) := by
  unfold isFolderF
  congr 1
  rw [Bool.eq_iff_iff, decide_eq_true_eq, List.any_eq_true, List.length_pos_iff_exists_mem]
  exact ⟨fun ⟨a, ha⟩ => ⟨a, (List.mem_filter.mp ha).1, (List.mem_filter.mp ha).2⟩, fun ⟨a, h1, h2⟩ => ⟨a, List.mem_filter.mpr ⟨h1, h2⟩⟩⟩
theorem folder_perm {fs gs : List File} (h : fs.Perm gs) (z : Str) : isFolderF fs z = isFolderF gs z := by rw [folder_any, folder_any, any_perm (paths_perm h)]
theorem ded_nodup' (xs : List Str) : (ded xs).Nodup := by
  have : ∀ (xs σ : List Str), σ.Nodup → (xs.foldl stepT σ).Nodup := by
    intro xs
    induction xs with
    | nil => intro σ h; exact h
    | cons x r ih =>
      intro σ h
      refine ih _ ?_
      unfold stepT
      split
      · exact h
      · rename_i hx
        rw [List.nodup_append]
        refine ⟨h, by simp, fun a ha b hb => ?_⟩
        rw [List.mem_singleton.mp hb]
        intro e
        exact hx (List.any_eq_true.mpr ⟨a, ha, by simp [e]⟩)
  exact this xs [] .nil
theorem ded_mem (xs : List Str) : ∀ x ∈ xs, x ∈ ded xs := by
  have : ∀ (xs σ : List Str), ∀ x, (x ∈ σ ∨ x ∈ xs) → x ∈ xs.foldl stepT σ := by
    intro xs
    induction xs with
    | nil => intro σ x h; rcases h with h | h; exact h; cases h
    | cons y r ih =>
      intro σ x h
      refine ih _ x ?_
      unfold stepT
      rcases h with h | h
      · refine .inl ?_
        split
        · exact h
        · exact List.mem_append_left _ h
      · rcases List.mem_cons.mp h with rfl | h
        · refine .inl ?_
          split
          · rename_i hx
            obtain ⟨a, ha, e⟩ := List.any_eq_true.mp hx
            rw [← beq_iff_eq.mp e]; exact ha
          · exact List.mem_append_right _ (List.mem_singleton.mpr rfl)
        · exact .inr h
  exact fun x hx => this xs [] x (.inr hx)
theorem ded_perm {xs ys : List Str} (h : xs.Perm ys) : (ded xs).Perm (ded ys) :=
  (List.perm_ext_iff_of_nodup (ded_nodup' xs) (ded_nodup' ys)).mpr fun a => ⟨fun ha => ded_mem ys a (h.subset (ded_sub xs a ha)), fun ha => ded_mem xs a (h.symm.subset (ded_sub ys a ha))⟩
theorem inside_perm {fs gs : List File} (h : fs.Perm gs) (z : Str) : (insideF fs z).Perm (insideF gs z) := (paths_perm h).filter _
theorem names_perm {fs gs : List File} (h : fs.Perm gs) (z : Str) : namesF fs z = namesF gs z := sortS_congr (ded_perm ((inside_perm h z).map _))
theorem foundPs_eq {fs : List File} (G : GoodP fs) (ha : Asc fs) (z : Str) : foundPs fs z = (pathsOf fs).filter fun p => decide (p = z) || isInsideS p z := by
  unfold foundPs
  refine sorted_eq ((sortS_perm _).trans ?_) (sortS_asc _) (List.Pairwise.filter _ ha)
  have nd : (pathsOf fs).Nodup := G.once
  refine (List.perm_ext_iff_of_nodup ?_ (nd.filter _)).mpr fun a => ?_
  · rw [List.nodup_append]
    refine ⟨nd.filter _, by split <;> simp, fun a h1 b h2 e => ?_⟩
    split at h2
    · rename_i hz
      rw [List.mem_singleton.mp h2] at e
      subst e
      obtain ⟨g, hg, e2⟩ := List.mem_map.mp (at_isSome.mp hz)
      have h3 := (List.mem_filter.mp h1).2
      have h4 := self_out (G.path g hg)
      rw [e2] at h4
      rw [h4] at h3
      cases h3
    · cases h2
  · rw [List.mem_append, List.mem_filter]
    constructor
    · rintro (h | h)
      · obtain ⟨h1, h2⟩ := List.mem_filter.mp h
        exact ⟨h1, by rw [h2, Bool.or_true]⟩
      · split at h
        · rename_i hz
          rw [List.mem_singleton.mp h]
          exact ⟨at_isSome.mp hz, by simp⟩
        · cases h
    · rintro ⟨h1, h2⟩
      rcases Bool.or_eq_true _ _ |>.mp h2 with h2 | h2
      · have e := of_decide_eq_true h2
        subst e
        exact .inr (by rw [if_pos (at_isSome.mpr h1)]; exact List.mem_singleton.mpr rfl)
      · exact .inl (List.mem_filter.mpr ⟨h1, h2⟩)
/-! ## the first name behind a place, by split -/
theorem spl_par : ∀ (cs acc : List Nat), TL.spl [47] 0 acc cs = (match TL.par [47] acc cs with
    | none => [acc ++ cs]
    | some (p, q) => p :: TL.spl [47] 0 [] q)
  | [], acc => by rw [TL.spl_nil]; show _ = [acc ++ []]; rw [List.append_nil]
  | c :: r, acc => by
    by_cases h : TL.pre [47] (c :: r) = true
    · rw [TL.spl_hit h, TL.par_hit h]
      rfl
    · have h : TL.pre [47] (c :: r) = false := by simpa using h
      rw [TL.spl_miss h, TL.par_miss h, spl_par r (acc ++ [c])]
      cases TL.par [47] (acc ++ [c]) r with
      | none => simp
      | some pq => rfl
theorem spl_ne (cs acc : List Nat) : TL.spl [47] 0 acc cs ≠ [] := by
  rw [spl_par]
  cases TL.par [47] acc cs <;> simp
theorem split_first (r : Str) : ∃ a t, Txt.split r (PySem.Str.ofString "/") = a :: t ∧ a.length ≤ r.length ∧ (if decide ((1 : Int) < ((a :: t).length : Int)) = true then a ++ PySem.Str.ofString "/" else a) = (Txt.partition r (PySem.Str.ofString "/")).1 ++ (Txt.partition r (PySem.Str.ofString "/")).2.1 := by
  have es : Txt.split r (PySem.Str.ofString "/") = (TL.spl [47] 0 [] r.cps.toList).map SX.S := by
    have := SX.split_S (a := r.cps.toList) (b := [47]) (by simp) (by decide)
    rw [SX.S_tl] at this
    rw [slash2]
    exact this
  have hmem : ∀ a, a ∈ Txt.split r (PySem.Str.ofString "/") → a.length ≤ r.length := fun a ha => split_part ha
  rw [es] at hmem ⊢
  rw [spl_par] at hmem ⊢
  cases q : TL.par [47] [] r.cps.toList with
  | none =>
    have ep := SX.partition_none (a := r.cps.toList) (b := [47]) (by simp) q
    rw [SX.S_tl] at ep
    rw [q] at hmem
    refine ⟨SX.S ([] ++ r.cps.toList), [], rfl, hmem _ (List.mem_singleton.mpr rfl), ?_⟩
    rw [slash2, ep]
    show SX.S ([] ++ r.cps.toList) = r ++ SX.S []
    rw [List.nil_append, SX.S_tl]
    exact str_ext (by rw [cps_app]; simp)
  | some pq =>
    obtain ⟨p1, q1⟩ := pq
    have ep := SX.partition_some (a := r.cps.toList) (b := [47]) (by simp) q
    rw [SX.S_tl] at ep
    rw [q] at hmem
    refine ⟨SX.S p1, (TL.spl [47] 0 [] q1).map SX.S, rfl, hmem _ (List.mem_cons_self ..), ?_⟩
    rw [slash2, ep, if_pos]
    rw [decide_eq_true_eq, List.length_cons, List.length_map]
    have := List.length_pos_iff.mpr (spl_ne q1 [])
    omega
theorem cut_zero (x : Str) : cutS x (some 0) none = x := by
  rw [txt_of x, cutS_txt, sIx_of (by decide)]
  show txt ((x.cps.toList.drop (min 0 _)).take (x.cps.toList.length - min 0 _)) = _
  rw [Nat.zero_min, List.drop_zero, Nat.sub_zero, List.take_length]
section
variable {P : Program} {w : World} {K : PySem.W.Frag} {mg : Str → Option Value} {base : Heap}
def spLFolder (K : PySem.W.Frag) : Sp := fun vs H Q _ => ∃ (f : Addr) (z : Str) (fs : List File), vs = [.ref f, .str z] ∧ FilesAt K H f fs ∧ (∀ o ∈ pathsOf fs, o.length ≤ 1000) ∧ z.length ≤ 1000 ∧ Q (.bl (isFolderF fs z)) H
def spLNames (K : PySem.W.Frag) : Sp := fun vs H Q _ => ∃ (f : Addr) (z : Str) (fs : List File), vs = [.ref f, .str z] ∧ FilesAt K H f fs ∧ (∀ o ∈ pathsOf fs, o.length ≤ 1000) ∧ fs.length ≤ 60 ∧ z.length ≤ 1000 ∧ ∀ p H', Kp [] H H' → SqT K H' p ((namesF fs z).map V.str) → Q (.ref p) H'
end
end K36



namespace K36
open PySem L2 Sa
theorem c_dgetR {K : PySem.W.Frag} {H : Hp} {d : Addr} {fs : List File} {p : Str} {ls : List Str} {Q : VK} (h : FilesR K H d fs) (g : at? fs p = some ls) (q : ∀ a, SqT K H a (ls.map V.str) → Q (.ref a) H) : DGetK (.ref d) (.str p) H Q := c_dgetF h g q
local macro_rules | `(tactic| walk_at "s1") => `(tactic| first | (with_reducible apply c_dgetK))
local macro_rules | `(tactic| walk_at "s1") => `(tactic| (with_reducible apply c_raiseO))
theorem TreeG.kb {K : PySem.W.Frag} {H H' : Hp} {t b d : Addr} {fs : List File} (h : TreeG K H t fs) (B : Bx H b d) (e : Kp [b] H H') : TreeG K H' t fs := by
  obtain ⟨⟨dx, dd, ls, h1, h2, h3, h4, h5⟩, g⟩ := h
  obtain ⟨_, _, hb, _⟩ := B.ex
  have n1 : t ≠ b := fun z => by rw [z, hb] at h1; cases h1
  have n2 : dd ≠ b := fun z => by rw [z, hb] at h2; cases h2
  exact ⟨⟨dx, dd, ls, e.at1 n1 h1, e.at1 n2 h2, fun l hl => SqT.kt (B.kt e) (h3 l hl), h4, h5⟩, g⟩
theorem at_sort {fs : List File} (G : GoodP fs) (p : Str) : at? (sortF fs) p = at? fs p := at_perm G.sort.once (sortF_perm fs) p
theorem c_intB {b : Bool} {H : Hp} {Q : VK} (q : Q (.int (if b then 1 else 0)) H) : rIntU [.bl b] H Q := .inr ⟨b, rfl, q⟩
section
variable {P : Program} {w : World} {K : PySem.W.Frag} {mg : Str → Option Value} {base : Heap}
def spLFound (K : PySem.W.Frag) : Sp := fun vs H Q _ => ∃ (f : Addr) (z wd : Str) (fs : List File), vs = [.ref f, .str z, .str wd] ∧ FilesAt K H f fs ∧ GoodP fs ∧ z.length ≤ 1000 ∧ ∀ p H', Kp [] H H' → Dt K H' (.ref p) (.tuple (foundF (sortF fs) z wd)) → Q (.ref p) H'
def spLAsked (K : PySem.W.Frag) : Sp := fun vs H Q _ => ∃ (f a : Addr) (x : Action) (fs : List File), vs = [.ref f, .ref a] ∧ FilesAt K H f fs ∧ GoodP fs ∧ ActAt K H a x ∧ x.isQ = true ∧ x.sane ∧ ∀ v H', Kp [] H H' → Dt K H' v (askF (sortF fs) x) → Q v H'
end
end K36



namespace K36
open PySem L2 Sa
section
variable {P : Program} {w : World} {K : PySem.W.Frag} {mg : Str → Option Value} {base : Heap}
def spAlike (K : PySem.W.Frag) : Sp := fun vs H Q _ => ∃ (x y : V) (d : PyData), vs = [x, y] ∧ Dp K H x d ∧ Dp K H y d ∧ Nice d ∧ Q (.bl true) H
end
end K36



namespace K36
open PySem L2 Sa
local macro_rules | `(tactic| walk_at "s1") => `(tactic| first | (with_reducible apply c_dgetK))
local macro_rules | `(tactic| walk_at "s1") => `(tactic| (with_reducible apply c_raiseO))
def rLenD : List V → Hp → VK → Prop := fun xs H Q => ∃ (a : Addr) (kvs : List (Key × V)), xs = [.ref a] ∧ Rd H a (.dK kvs) ∧ Q (.int kvs.length) H
theorem cr_lenD {X : Cx} : CallR X (.builtin "len") rLenD := by
  intro pins s σ H vs us Q I r h
  obtain ⟨a, kvs, rfl, e, q⟩ := h
  obtain ⟨u, rfl, ru⟩ := vals1 r
  cases ru
  exact d_len I e fun t s' I' => ⟨.int _, H, I', ⟨t, rfl⟩, q⟩
theorem c_lenF {K : PySem.W.Frag} {H : Hp} {f : Addr} {fs : List File} {Q : VK} (h : FilesR K H f fs) (q : Q (.int fs.length) H) : rLenD [.ref f] H Q := by
  obtain ⟨ls, h1, h2, rfl⟩ := h.ex
  refine ⟨f, _, rfl, h1, ?_⟩
  rw [List.length_map] at q
  unfold filesKv
  rw [List.length_map]
  exact q
/-! ## the plain model, in whatever order the files lie -/
def refuseF (fs : List File) : Action → Str
  | .write p _ => if blockedF fs p then "blocked" else if (at? fs p).isNone && decide (fs.length = 20) then "full" else ""
  | .remove p => if (at? fs p).isNone then "missing" else ""
  | .move p t => (match at? fs p with
    | none => "missing"
    | some _ => if (at? (withoutF fs p) t).isSome || blockedF (withoutF fs p) t then "blocked" else "")
  | .splice p old new => (match at? fs p with
    | none => "missing"
    | some ls => (match placesF ls old with
      | [] => "absent"
      | [_] => if decide ((12 : Int) < (ls.length : Int) - old.length + new.length) then "long" else ""
      | _ => "ambiguous"))
  | _ => ""
def laterF (fs : List File) : Action → List File
  | .write p ls => withF fs p ls
  | .remove p => withoutF fs p
  | .move p t => withF (withoutF fs p) t ((at? fs p).getD [])
  | .splice p old new => withF fs p (splicedL ((at? fs p).getD []) old new ((placesF ((at? fs p).getD []) old).getD 0 0))
  | _ => fs
theorem above_perm {fs gs : List File} (h : fs.Perm gs) (z : Str) : (aboveF fs z).Perm (aboveF gs z) := (paths_perm h).filter _
theorem blocked_perm {fs gs : List File} (h : fs.Perm gs) (z : Str) : blockedF fs z = blockedF gs z := by
  unfold blockedF
  rw [(inside_perm h z).length_eq, (above_perm h z).length_eq]
theorem without_perm {fs gs : List File} (h : fs.Perm gs) (p : Str) : (withoutF fs p).Perm (withoutF gs p) := h.filter _
theorem once_without {fs : List File} (h : Once fs) (p : Str) : Once (withoutF fs p) := List.Nodup.sublist (List.Sublist.map _ List.filter_sublist) h
theorem not_in_without (fs : List File) (p : Str) : p ∉ pathsOf (withoutF fs p) := fun h => by
  obtain ⟨f, hf, rfl⟩ := List.mem_map.mp h
  have := (List.mem_filter.mp hf).2
  simp at this
theorem once_with {fs : List File} (h : Once fs) (p : Str) (ls : List Str) : Once (withF fs p ls) := by
  unfold Once withF
  rw [List.map_append, List.nodup_append]
  refine ⟨once_without h p, by simp, fun a ha b hb => ?_⟩
  simp only [List.map_cons, List.map_nil, List.mem_singleton] at hb
  rw [hb]
  intro e
  rw [e] at ha
  exact not_in_without fs p ha
theorem sort_with {fs : List File} (h : Once fs) (p : Str) (ls : List Str) : sortF (withF (sortF fs) p ls) = sortF (withF fs p ls) :=
  sortF_congr ((without_perm (sortF_perm fs) p).append_right _) (once_with (sortF_once h) p ls)
theorem sort_without {fs : List File} (h : Once fs) (p : Str) : sortF (withoutF (sortF fs) p) = sortF (withoutF fs p) := sortF_congr (without_perm (sortF_perm fs) p) (once_without (sortF_once h) p)
theorem at_perm' {fs gs : List File} (h : Once fs) (p : fs.Perm gs) (z : Str) : at? fs z = at? gs z := at_perm h p z
theorem deed_eq {fs : List File} (G : GoodP fs) {x : Action} (hq : x.isQ = false) : (refuseF fs x = "" → deedF (sortF fs) x = (wordD "done", sortF (laterF fs x))) ∧ (refuseF fs x ≠ "" → deedF (sortF fs) x = (wordD (refuseF fs x), sortF fs)) := by
  have lit : ∀ z : Str, z ∈ (["none", "done", "missing", "blocked", "full", "absent", "ambiguous", "long"] : List Str) → z ≠ ("" : Str) := by decide +kernel
  cases x with
  | write p ls =>
    simp only [deedF, refuseF, laterF, blocked_perm (sortF_perm fs), at_sort G, sortF_len]
    split
    · exact ⟨fun h => absurd h (lit _ (by decide +kernel)), fun _ => rfl⟩
    · split
      · exact ⟨fun h => absurd h (lit _ (by decide +kernel)), fun _ => rfl⟩
      · exact ⟨fun _ => by rw [sort_with G.once], fun h => absurd rfl h⟩
  | remove p =>
    simp only [deedF, refuseF, laterF, at_sort G]
    split
    · exact ⟨fun h => absurd h (lit _ (by decide +kernel)), fun _ => rfl⟩
    · exact ⟨fun _ => by rw [sort_without G.once], fun h => absurd rfl h⟩
  | move p t =>
    simp only [deedF, refuseF, laterF, at_sort G]
    cases q : at? fs p with
    | none => simp only; exact ⟨fun h => absurd h (lit _ (by decide +kernel)), fun _ => by first | rfl | trivial⟩
    | some ls =>
      simp only [sort_without G.once]
      have pm := sortF_perm (withoutF fs p)
      rw [at_perm' (sortF_once (once_without G.once p)) pm, blocked_perm pm]
      split
      · exact ⟨fun h => absurd h (lit _ (by decide +kernel)), fun _ => rfl⟩
      · exact ⟨fun _ => by rw [sort_with (once_without G.once p)]; rfl, fun h => absurd rfl h⟩
  | splice p old new =>
    simp only [deedF, refuseF, laterF, at_sort G]
    cases q : at? fs p with
    | none => simp only; exact ⟨fun h => absurd h (lit _ (by decide +kernel)), fun _ => by first | rfl | trivial⟩
    | some ls =>
      simp only [Option.getD_some]
      cases hp : placesF ls old with
      | nil => simp only; exact ⟨fun h => absurd h (lit _ (by decide +kernel)), fun _ => by first | rfl | trivial⟩
      | cons i r =>
        cases r with
        | nil =>
          simp only
          split
          · exact ⟨fun h => absurd h (lit _ (by decide +kernel)), fun _ => rfl⟩
          · exact ⟨fun _ => by rw [sort_with G.once]; rfl, fun h => absurd rfl h⟩
        | cons j r => simp only; exact ⟨fun h => absurd h (lit _ (by decide +kernel)), fun _ => by first | rfl | trivial⟩
  | _ => cases hq
section
variable {P : Program} {w : World} {K : PySem.W.Frag} {mg : Str → Option Value} {base : Heap}
def spLRefusal (K : PySem.W.Frag) : Sp := fun vs H Q _ => ∃ (f a : Addr) (x : Action) (fs : List File), vs = [.ref f, .ref a] ∧ FilesAt K H f fs ∧ GoodP fs ∧ ActAt K H a x ∧ x.isQ = false ∧ x.bad = none ∧ ∀ H', Kp [] H H' → Q (.str (refuseF fs x)) H'
end
end K36



namespace K36
open PySem L2 Sa
local macro_rules | `(tactic| walk_at "s1") => `(tactic| first | (with_reducible apply c_dgetK))
local macro_rules | `(tactic| walk_at "s1") => `(tactic| (with_reducible apply c_raiseO))
def Action.word : Action → Str
  | .read _ => "read" | .kind _ => "kind" | .list _ => "list" | .find _ _ => "find" | .count _ => "count"
  | .write _ _ => "write" | .remove _ => "remove" | .move _ _ => "move" | .splice _ _ _ => "splice"
def Action.place : Action → Str
  | .read p => p | .kind p => p | .list p => p | .find p _ => p | .count p => p
  | .write p _ => p | .remove p => p | .move p _ => p | .splice p _ _ => p
theorem ActAt.head {K : PySem.W.Frag} {H : Hp} {a : Addr} {x : Action} (h : ActAt K H a x) : ∃ r, SqT K H a (.str x.word :: .str x.place :: r) := by
  cases x with
  | write p ls => obtain ⟨l, h, _⟩ := h; exact ⟨_, h⟩
  | splice p old new => obtain ⟨l, m, h, _⟩ := h; exact ⟨_, h⟩
  | _ => exact ⟨_, h⟩
theorem ActAt.kt {K : PySem.W.Frag} {H H' : Hp} {a : Addr} (e : Kt H H') : ∀ {x : Action}, ActAt K H a x → ActAt K H' a x
  | .read _, h => SqT.kt e h
  | .kind _, h => SqT.kt e h
  | .list _, h => SqT.kt e h
  | .find _ _, h => SqT.kt e h
  | .count _, h => SqT.kt e h
  | .write _ _, ⟨l, h1, h2⟩ => ⟨l, SqT.kt e h1, SqT.kt e h2⟩
  | .remove _, h => SqT.kt e h
  | .move _ _, h => SqT.kt e h
  | .splice _ _ _, ⟨l, m, h1, h2, h3⟩ => ⟨l, m, SqT.kt e h1, SqT.kt e h2, SqT.kt e h3⟩
theorem word_isQ (x : Action) : decide (x.word ∈ (["read", "kind", "list", "find", "count"] : List Str)) = x.isQ := by
  cases x with
  | read p =>
    show decide ((PySem.Str.ofString "read") ∈ (["read", "kind", "list", "find", "count"] : List Str)) = true
    decide +kernel
  | kind p =>
    show decide ((PySem.Str.ofString "kind") ∈ (["read", "kind", "list", "find", "count"] : List Str)) = true
    decide +kernel
  | list p =>
    show decide ((PySem.Str.ofString "list") ∈ (["read", "kind", "list", "find", "count"] : List Str)) = true
    decide +kernel
  | find p w =>
    show decide ((PySem.Str.ofString "find") ∈ (["read", "kind", "list", "find", "count"] : List Str)) = true
    decide +kernel
  | count p =>
    show decide ((PySem.Str.ofString "count") ∈ (["read", "kind", "list", "find", "count"] : List Str)) = true
    decide +kernel
  | write p ls =>
    show decide ((PySem.Str.ofString "write") ∈ (["read", "kind", "list", "find", "count"] : List Str)) = false
    decide +kernel
  | remove p =>
    show decide ((PySem.Str.ofString "remove") ∈ (["read", "kind", "list", "find", "count"] : List Str)) = false
    decide +kernel
  | move p t =>
    show decide ((PySem.Str.ofString "move") ∈ (["read", "kind", "list", "find", "count"] : List Str)) = false
    decide +kernel
  | splice p o n =>
    show decide ((PySem.Str.ofString "splice") ∈ (["read", "kind", "list", "find", "count"] : List Str)) = false
    decide +kernel
theorem putR_new {fs : List File} {p : Str} (h : p ∉ pathsOf fs) (ls : List Str) : putR fs p ls = fs ++ [(p, ls)] := by
  unfold putR
  rw [if_neg]
  intro hz
  obtain ⟨f, hf, e⟩ := List.any_eq_true.mp hz
  exact h (List.mem_map.mpr ⟨f, hf, of_decide_eq_true e⟩)
theorem without_new {fs : List File} {p : Str} (h : p ∉ pathsOf fs) : withoutF fs p = fs := List.filter_eq_self.mpr fun g hg => by
  rw [decide_eq_false fun e => h (List.mem_map.mpr ⟨g, hg, e⟩)]
  rfl
theorem put_without (fs : List File) (p : Str) (ls : List Str) : putR (withoutF fs p) p ls = withF fs p ls := putR_new (not_in_without fs p) ls
theorem not_at {fs : List File} {p : Str} (h : (at? fs p).isSome = false) : p ∉ pathsOf fs := fun hm => by rw [at_isSome.mpr hm] at h; cases h
theorem put_with {fs : List File} {p : Str} (h : (at? fs p).isSome = false) (ls : List Str) : putR fs p ls = withF fs p ls := by
  rw [putR_new (not_at h), withF, without_new (not_at h)]
/-- what is not refused -/
theorem done_at {fs : List File} {x : Action} (h : refuseF fs x = "") : (match x with
    | .write _ _ => True
    | .remove p => (at? fs p).isSome = true
    | .move p t => ∃ ls, at? fs p = some ls ∧ (at? (withoutF fs p) t).isSome = false
    | .splice p old new => ∃ ls i, at? fs p = some ls ∧ placesF ls old = [i]
    | _ => True) := by
  have lit : ∀ z : Str, z ∈ (["none", "done", "missing", "blocked", "full", "absent", "ambiguous", "long"] : List Str) → z ≠ "" := by decide +kernel
  have miss : ("missing" : Str) = "" → False := fun h => lit _ (by decide +kernel) h
  have blk : ("blocked" : Str) = "" → False := fun h => lit _ (by decide +kernel) h
  have ab : ("absent" : Str) = "" → False := fun h => lit _ (by decide +kernel) h
  have am : ("ambiguous" : Str) = "" → False := fun h => lit _ (by decide +kernel) h
  cases x with
  | remove p =>
    simp only [refuseF] at h
    cases g : at? fs p with
    | none => rw [g] at h; exact (miss h).elim
    | some _ => simp [g]
  | move p t =>
    simp only [refuseF] at h
    cases g : at? fs p with
    | none => rw [g] at h; exact (miss h).elim
    | some ls =>
      refine ⟨ls, g, ?_⟩
      rw [g] at h
      simp only at h
      cases g2 : (at? (withoutF fs p) t).isSome with
      | false => rfl
      | true =>
        rw [g2] at h
        exact (blk h).elim
  | splice p old new =>
    simp only [refuseF] at h
    cases g : at? fs p with
    | none => rw [g] at h; exact (miss h).elim
    | some ls =>
      rw [g] at h
      simp only at h
      cases g2 : placesF ls old with
      | nil => rw [g2] at h; exact (ab h).elim
      | cons i r =>
        cases r with
        | nil => exact ⟨ls, i, g, g2⟩
        | cons j r => rw [g2] at h; exact (am h).elim
  | _ => trivial
section
variable {P : Program} {w : World} {K : PySem.W.Frag} {mg : Str → Option Value} {base : Heap}
/-- what the law's act hands back -/
def RetL (K : PySem.W.Frag) (H : Hp) (Q : VK) (r : PyData × List File) : Prop := ∀ p v f' fs' H', Kp [] H H' → H' p = some (.lst [v, .ref f']) → Dt K H' v r.1 → FilesAt K H' f' fs' → GoodP fs' → sortF fs' = r.2 → Q (.ref p) H'
def spLAct (K : PySem.W.Frag) : Sp := fun vs H Q _ => ∃ (f a : Addr) (x : Action) (fs : List File), vs = [.ref f, .ref a] ∧ FilesAt K H f fs ∧ GoodP fs ∧ ActAt K H a x ∧ x.bad = none ∧ RetL K H Q (actF (sortF fs) x)
end
end K36




namespace K36
open PySem L2 Sa
local macro_rules | `(tactic| walk_at "s1") => `(tactic| first | (with_reducible apply c_dgetK))
local macro_rules | `(tactic| walk_at "s1") => `(tactic| (with_reducible apply c_raiseO))
/-! ## actions as data; journals -/
def Action.d : Action → PyData
  | .read p => .tuple [.str "read", .str p]
  | .kind z => .tuple [.str "kind", .str z]
  | .list z => .tuple [.str "list", .str z]
  | .find z w => .tuple [.str "find", .str z, .str w]
  | .count z => .tuple [.str "count", .str z]
  | .write p ls => .tuple [.str "write", .str p, strsD ls]
  | .remove p => .tuple [.str "remove", .str p]
  | .move p t => .tuple [.str "move", .str p, .str t]
  | .splice p old new => .tuple [.str "splice", .str p, strsD old, strsD new]
theorem ActAt.dt {K : PySem.W.Frag} {H : Hp} {a : Addr} {x : Action} (h : ActAt K H a x) : Dt K H (.ref a) x.d := by
  cases x with
  | write p ls => obtain ⟨l, h1, h2⟩ := h; exact .tup h1 (.cons (.str _) (.cons (.str _) (.cons (dt_strs h2) .nil)))
  | splice p old new => obtain ⟨l, m, h1, h2, h3⟩ := h; exact .tup h1 (.cons (.str _) (.cons (.str _) (.cons (dt_strs h2) (.cons (dt_strs h3) .nil))))
  | find z w => exact .tup h (.cons (.str _) (.cons (.str _) (.cons (.str _) .nil)))
  | move z w => exact .tup h (.cons (.str _) (.cons (.str _) (.cons (.str _) .nil)))
  | _ => exact .tup h (.cons (.str _) (.cons (.str _) .nil))
theorem dta_one {K : PySem.W.Frag} {H : Hp} {xs : List V} {s : Str} {ds : List PyData} (h : DtAll K H xs (.str s :: ds)) : ∃ vs, xs = .str s :: vs ∧ DtAll K H vs ds := by
  obtain ⟨v, vs, rfl, h1, h2⟩ := dta_cons h
  rw [dt_str h1]
  exact ⟨vs, rfl, h2⟩
theorem dta_strsD {K : PySem.W.Frag} {H : Hp} {xs : List V} {ys : List Str} {ds : List PyData} (h : DtAll K H xs (strsD ys :: ds)) : ∃ l vs, xs = .ref l :: vs ∧ SqT K H l (ys.map V.str) ∧ DtAll K H vs ds := by
  obtain ⟨v, vs, rfl, h1, h2⟩ := dta_cons h
  obtain ⟨l, rfl, h3⟩ := strsD_of h1
  exact ⟨l, vs, rfl, h3, h2⟩
theorem two_inv {K : PySem.W.Frag} {H : Hp} {v : V} {s z : Str} (h : Dt K H v (.tuple [.str s, .str z])) : ∃ a, v = .ref a ∧ SqT K H a [.str s, .str z] := by
  obtain ⟨a, xs, e, h1, h2⟩ := dt_tup h
  obtain ⟨ys, e2, h3⟩ := dta_one h2
  obtain ⟨zs, e3, h4⟩ := dta_one h3
  have e4 := dta_nil h4
  rw [e4] at e3
  rw [e3] at e2
  rw [e2] at h1
  exact ⟨a, e, h1⟩
theorem three_inv {K : PySem.W.Frag} {H : Hp} {v : V} {s z w : Str} (h : Dt K H v (.tuple [.str s, .str z, .str w])) : ∃ a, v = .ref a ∧ SqT K H a [.str s, .str z, .str w] := by
  obtain ⟨a, xs, e, h1, h2⟩ := dt_tup h
  obtain ⟨ys, e2, h3⟩ := dta_one h2
  obtain ⟨zs, e3, h4⟩ := dta_one h3
  obtain ⟨us, e4, h5⟩ := dta_one h4
  have e5 := dta_nil h5
  rw [e5] at e4
  rw [e4] at e3
  rw [e3] at e2
  rw [e2] at h1
  exact ⟨a, e, h1⟩
theorem ActAt.of {K : PySem.W.Frag} {H : Hp} {v : V} {x : Action} (h : Dt K H v x.d) : ∃ a, v = .ref a ∧ ActAt K H a x := by
  cases x with
  | write p ls =>
    obtain ⟨a, xs, e, h1, h2⟩ := dt_tup h
    obtain ⟨ys, e2, h3⟩ := dta_one h2
    obtain ⟨zs, e3, h4⟩ := dta_one h3
    obtain ⟨l, us, e4, g1, h5⟩ := dta_strsD h4
    have e5 := dta_nil h5
    rw [e5] at e4
    rw [e4] at e3
    rw [e3] at e2
    rw [e2] at h1
    exact ⟨a, e, l, h1, g1⟩
  | splice p old new =>
    obtain ⟨a, xs, e, h1, h2⟩ := dt_tup h
    obtain ⟨ys, e2, h3⟩ := dta_one h2
    obtain ⟨zs, e3, h4⟩ := dta_one h3
    obtain ⟨l, us, e4, g1, h5⟩ := dta_strsD h4
    obtain ⟨m, ws, e5, g2, h6⟩ := dta_strsD h5
    have e6 := dta_nil h6
    rw [e6] at e5
    rw [e5] at e4
    rw [e4] at e3
    rw [e3] at e2
    rw [e2] at h1
    exact ⟨a, e, l, m, h1, g1, g2⟩
  | find z w => exact three_inv h
  | move z w => exact three_inv h
  | _ => exact two_inv h
theorem ActAt.of_ref {K : PySem.W.Frag} {H : Hp} {a : Addr} {x : Action} (h : Dt K H (.ref a) x.d) : ActAt K H a x := by
  obtain ⟨b, e, h⟩ := ActAt.of h
  injection e with e
  subst e
  exact h
theorem fit_str {z : Str} {w : Nat} (h : okS z = true) (hl : z.length ≤ w) (hw : w ≤ 252) : Fit 1 252 (.str z) := (Fit.str h hl).mono (by omega) hw
theorem place_ok {z : Str} (h : isPlaceS z = true) : okS z = true := by
  unfold isPlaceS at h
  rw [Bool.or_eq_true, decide_eq_true_eq] at h
  rcases h with rfl | h
  · decide +kernel
  · exact path_ok h
theorem word_ok {z : Str} (h : isWordS z = true) : okS z = true := by
  unfold isWordS at h
  simp only [Bool.and_eq_true] at h
  exact plain_ok h.2
theorem fit_lns {ls : List Str} (h : isLinesS ls = true) : Fit 1 252 (strsD ls) := by
  obtain ⟨l1, l2⟩ := lines_len h
  exact Fit.strs (w := 20) (m := 12) (fun y hy => ⟨plain_ok (l2 y hy).2, (l2 y hy).1⟩) l1
theorem fit_list {ds : List PyData} (h : ∀ d ∈ ds, Fit 1 252 d) (hl : ds.length ≤ 4) : Fit 2 1012 (.tuple ds) := Fit.tup h hl
theorem kw_ok : ∀ z ∈ (["read", "kind", "list", "find", "count", "write", "remove", "move", "splice"] : List Str), okS z = true ∧ z.length ≤ 6 := by decide +kernel
theorem fit_kw (z : Str) (h : z ∈ (["read", "kind", "list", "find", "count", "write", "remove", "move", "splice"] : List Str)) : Fit 1 252 (.str z) := fit_str (kw_ok z h).1 (kw_ok z h).2 (by omega)
theorem fit_action {x : Action} (h : x.bad = none) : Fit 2 1012 x.d := by
  have pth : ∀ {p : Str}, isPathS p = true → Fit 1 252 (.str p) := fun hp => fit_str (path_ok hp) (path_len hp) (by omega)
  have plc : ∀ {p : Str}, isPlaceS p = true → Fit 1 252 (.str p) := fun hp => fit_str (place_ok hp) (place_len hp) (by omega)
  have wrd : ∀ {p : Str}, isWordS p = true → Fit 1 252 (.str p) := fun hp => fit_str (word_ok hp) (word_len hp) (by omega)
  have two : ∀ {a b : PyData}, Fit 1 252 a → Fit 1 252 b → Fit 2 1012 (.tuple [a, b]) := fun ha hb => fit_list (fun d hd => by
    simp only [List.mem_cons, List.not_mem_nil, or_false] at hd
    rcases hd with rfl | rfl <;> assumption) (by simp)
  have three : ∀ {a b c : PyData}, Fit 1 252 a → Fit 1 252 b → Fit 1 252 c → Fit 2 1012 (.tuple [a, b, c]) := fun ha hb hc => fit_list (fun d hd => by
    simp only [List.mem_cons, List.not_mem_nil, or_false] at hd
    rcases hd with rfl | rfl | rfl <;> assumption) (by simp)
  cases x with
  | read p => simp only [Action.bad] at h; split at h; exact two (fit_kw _ (by decide +kernel)) (pth ‹_›); cases h
  | kind p => simp only [Action.bad] at h; split at h; exact two (fit_kw _ (by decide +kernel)) (plc ‹_›); cases h
  | list p => simp only [Action.bad] at h; split at h; exact two (fit_kw _ (by decide +kernel)) (plc ‹_›); cases h
  | count p => simp only [Action.bad] at h; split at h; exact two (fit_kw _ (by decide +kernel)) (plc ‹_›); cases h
  | remove p => simp only [Action.bad] at h; split at h; exact two (fit_kw _ (by decide +kernel)) (pth ‹_›); cases h
  | find p w =>
    simp only [Action.bad] at h
    split at h
    · split at h
      · exact three (fit_kw _ (by decide +kernel)) (plc ‹_›) (wrd ‹_›)
      · cases h
    · cases h
  | move p t =>
    simp only [Action.bad] at h
    split at h
    · split at h
      · exact three (fit_kw _ (by decide +kernel)) (pth ‹_›) (pth ‹_›)
      · cases h
    · cases h
  | write p ls =>
    simp only [Action.bad] at h
    split at h
    · split at h
      · exact three (fit_kw _ (by decide +kernel)) (pth ‹_›) (fit_lns ‹_›)
      · cases h
    · cases h
  | splice p old new =>
    simp only [Action.bad] at h
    split at h
    · split at h
      · split at h
        · rename_i h1 h2 h3
          rw [Bool.and_eq_true] at h2
          exact fit_list (fun d hd => by
            simp only [List.mem_cons, List.not_mem_nil, or_false] at hd
            rcases hd with rfl | rfl | rfl | rfl
            · exact fit_kw _ (by decide +kernel)
            · exact pth h1
            · exact fit_lns h2.1
            · exact fit_lns h3) (by simp)
        · cases h
      · cases h
    · cases h
end K36



namespace K36
open PySem L2 Sa
local macro_rules | `(tactic| walk_at "s1") => `(tactic| first | (with_reducible apply c_dgetK))
local macro_rules | `(tactic| walk_at "s1") => `(tactic| (with_reducible apply c_raiseO))
abbrev Entry := Action × PyData
def entryD (e : Entry) : PyData := .tuple [e.1.d, e.2]
def jourD (js : List Entry) : PyData := .tuple (js.map entryD)
/-- an entry within its bounds -/
structure EntOk (e : Entry) : Prop where
  act : e.1.bad = none
  ans : Fit 3 30000 e.2
theorem fit_entry {e : Entry} (h : EntOk e) : Fit 4 60002 (entryD e) :=
  (Fit.tup (n := 3) (w := 30000) (m := 2) (fun d hd => by
    simp only [List.mem_cons, List.not_mem_nil, or_false] at hd
    rcases hd with rfl | rfl
    · exact (fit_action h.act).mono (by omega) (by omega)
    · exact h.ans) (by simp)).mono (by omega) (by omega)
theorem fit_entry' {e : Entry} (h : EntOk e) : Fit 4 31014 (entryD e) := by
  have g := (FitAll.cons ((fit_action h.act).mono (by omega : 2 ≤ 3) (Nat.le_refl _)) (FitAll.cons h.ans FitAll.nil)).tup
  exact g.mono (by omega) (by omega)
theorem fit_jour {js : List Entry} {m : Nat} (h : ∀ e ∈ js, EntOk e) (hl : js.length ≤ m) : Fit 5 (31015 * m) (jourD js) :=
  (Fit.tup (n := 4) (w := 31014) (m := m) (fun d hd => by obtain ⟨e, he, rfl⟩ := List.mem_map.mp hd; exact fit_entry' (h e he)) (by rw [List.length_map]; exact hl)).mono (by omega) (by omega)
/-! the plain model -/
def stepJ (s : List Entry × List File) (x : Action) : List Entry × List File := (s.1 ++ [(x, (actF s.2 x).1)], (actF s.2 x).2)
def runF (fs : List File) (xs : List Action) : List Entry × List File := xs.foldl stepJ ([], fs)
def leadF (fs : List File) (xs : List Action) : List File := xs.foldl (fun fs x => (actF fs x).2) fs
theorem run_snoc (fs : List File) (xs : List Action) (x : Action) : runF fs (xs ++ [x]) = stepJ (runF fs xs) x := by unfold runF; rw [List.foldl_append]; rfl
theorem lead_snoc (fs : List File) (xs : List Action) (x : Action) : leadF fs (xs ++ [x]) = (actF (leadF fs xs) x).2 := by unfold leadF; rw [List.foldl_append]; rfl
theorem run_two : ∀ (xs : List Action) (s : List Entry × List File), (xs.foldl stepJ s).2 = xs.foldl (fun fs x => (actF fs x).2) s.2 ∧ (xs.foldl stepJ s).1.length = s.1.length + xs.length ∧ (xs.foldl stepJ s).1.map Prod.fst = s.1.map Prod.fst ++ xs
  | [], s => ⟨rfl, rfl, by simp⟩
  | x :: r, s => by
    obtain ⟨h1, h2, h3⟩ := run_two r (stepJ s x)
    refine ⟨h1, ?_, ?_⟩
    · rw [List.foldl_cons, h2]; unfold stepJ; simp only [List.length_append, List.length_cons, List.length_nil]; omega
    · rw [List.foldl_cons, h3]; unfold stepJ; simp
theorem run_lead (fs : List File) (xs : List Action) : (runF fs xs).2 = leadF fs xs := (run_two xs _).1
theorem run_len (fs : List File) (xs : List Action) : (runF fs xs).1.length = xs.length := by have := (run_two xs ([], fs)).2.1; simpa [runF] using this
theorem run_acts (fs : List File) (xs : List Action) : (runF fs xs).1.map Prod.fst = xs := by have := (run_two xs ([], fs)).2.2; simpa [runF] using this
theorem run_ok : ∀ (xs : List Action) (s : List Entry × List File), (∀ x ∈ xs, x.bad = none) → GoodP s.2 → (∀ e ∈ s.1, EntOk e) → (∀ e ∈ (xs.foldl stepJ s).1, EntOk e) ∧ GoodP (xs.foldl stepJ s).2
  | [], s, _, hg, he => ⟨he, hg⟩
  | x :: r, s, hx, hg, he => by
    have hb := hx x (List.mem_cons_self ..)
    refine run_ok r (stepJ s x) (fun y hy => hx y (List.mem_cons_of_mem _ hy)) (hg.act hb) fun e h => ?_
    rcases List.mem_append.mp h with h | h
    · exact he e h
    · rw [List.mem_singleton.mp h]; exact ⟨hb, fit_act hg x⟩
theorem runF_ok {fs : List File} (G : GoodP fs) {xs : List Action} (h : ∀ x ∈ xs, x.bad = none) : (∀ e ∈ (runF fs xs).1, EntOk e) ∧ GoodP (runF fs xs).2 := run_ok xs ([], fs) h G (by simp)
theorem lead_good {fs : List File} (G : GoodP fs) {xs : List Action} (h : ∀ x ∈ xs, x.bad = none) : GoodP (leadF fs xs) := by rw [← run_lead]; exact (runF_ok G h).2
/-- the first entry that has another answer -/
def changeF : Nat → List File → List Entry → Option (Nat × PyData)
  | _, _, [] => none
  | i, fs, e :: r => if PyData.eqv (actF fs e.1).1 e.2 = true then changeF (i + 1) (actF fs e.1).2 r else some (i, (actF fs e.1).1)
def changeD : Option (Nat × PyData) → PyData
  | none => .none
  | some (i, d) => .tuple [.int (i : Nat), d]
theorem change_step {fs : List File} {js : List Entry} {i : Nat} {e : Entry} (h : js[i]? = some e) : changeF i fs (js.drop i) = if PyData.eqv (actF fs e.1).1 e.2 = true then changeF (i + 1) (actF fs e.1).2 (js.drop (i + 1)) else some (i, (actF fs e.1).1) := by
  have hi : i < js.length := (List.getElem?_eq_some_iff.mp h).1
  have e2 : js[i] = e := (List.getElem?_eq_some_iff.mp h).2
  rw [List.drop_eq_getElem_cons hi, e2]
  rfl
theorem change_fit : ∀ (js : List Entry) (fs : List File) (i : Nat), GoodP fs → (∀ e ∈ js, EntOk e) → i + js.length < 1000 → Fit 4 30100 (changeD (changeF i fs js))
  | [], fs, i, _, _, _ => Fit.none.mono (by omega) (by omega)
  | e :: r, fs, i, G, h, hl => by
    have he := h e (List.mem_cons_self ..)
    unfold changeF
    split
    · exact change_fit r _ (i + 1) (G.act he.act) (fun y hy => h y (List.mem_cons_of_mem _ hy)) (by rw [List.length_cons] at hl; omega)
    · have g := (FitAll.cons ((Fit.nat (n := i) (by omega)).mono (by omega : 0 ≤ 3) (Nat.le_refl _)) (FitAll.cons (fit_act G e.1) FitAll.nil)).tup
      exact g.mono (by omega) (by omega)
section
variable {K : PySem.W.Frag} {H : Hp} {Q : VK}
theorem dta_acts {K : PySem.W.Frag} {H : Hp} : ∀ {xs : List Action} {vs : List V}, DtAll K H vs (xs.map Action.d) → ∃ as : List Addr, vs = as.map V.ref ∧ as.length = xs.length ∧ ∀ (i : Nat) (x : Action), xs[i]? = some x → ∃ a, as[i]? = some a ∧ ActAt K H a x
  | [], vs, h => ⟨[], dta_nil h, rfl, by simp⟩
  | x :: r, vs, h => by
    obtain ⟨v, ws, rfl, h1, h2⟩ := dta_cons h
    obtain ⟨a, rfl, h3⟩ := ActAt.of h1
    obtain ⟨as, rfl, hl, h4⟩ := dta_acts h2
    refine ⟨a :: as, rfl, by rw [List.length_cons, List.length_cons, hl], fun i y hy => ?_⟩
    cases i with
    | zero => simp at hy; subst hy; exact ⟨a, rfl, h3⟩
    | succ i => exact h4 i y hy
/-- the entry at a place -/
theorem ent_at {K : PySem.W.Frag} {H : Hp} {js : List Entry} {vs : List V} {i : Nat} {e : Entry} (h : DtAll K H vs (js.map entryD)) (he : js[i]? = some e) : ∃ p a v, vs[i]? = some (.ref p) ∧ SqT K H p [.ref a, v] ∧ ActAt K H a e.1 ∧ Dt K H v e.2 := by
  obtain ⟨v, h1, h2⟩ := dta_get h (show (js.map entryD)[i]? = some (entryD e) by rw [List.getElem?_map, he]; rfl)
  obtain ⟨p, xs, rfl, h3, h4⟩ := dt_tup h2
  obtain ⟨u, us, rfl, h5, h6⟩ := dta_cons h4
  obtain ⟨a, rfl, h7⟩ := ActAt.of h5
  obtain ⟨u2, us2, rfl, h8, h9⟩ := dta_cons h6
  rw [dta_nil h9] at h3
  exact ⟨p, a, u2, h1, h3, h7, h8⟩
end
end K36



namespace K36
open PySem L2 Sa
local macro_rules | `(tactic| walk_at "s1") => `(tactic| first | (with_reducible apply c_dgetK))
local macro_rules | `(tactic| walk_at "s1") => `(tactic| (with_reducible apply c_raiseO))
section
variable {P : Program} {w : World} {K : PySem.W.Frag} {mg : Str → Option Value} {base : Heap}
def spRun (K : PySem.W.Frag) : Sp := fun vs H Q _ => ∃ (t a : Addr) (xs : List Action) (fs : List File), vs = [.ref t, .ref a] ∧ TreeG K H t fs ∧ Dt K H (.ref a) (.tuple (xs.map Action.d)) ∧ xs.length ≤ 60 ∧ (∀ x ∈ xs, x.bad = none) ∧
  ∀ p j t' H', Kp [] H H' → SqT K H' p [.ref j, .ref t'] → Dt K H' (.ref j) (jourD (runF fs xs).1) → TreeG K H' t' (runF fs xs).2 → Q (.ref p) H'
theorem sc_run : FnScope ["tree", "actions", "journal", "action", "answer"] ["tree", "actions"] (defScope s_run) := ⟨rfl, rfl, rfl, by decide +kernel, rfl, by decide +kernel, by decide +kernel⟩
theorem bn_run : BindN "run" s_run ["tree", "actions"] := fun _ _ _ _ _ _ us hl => match us, hl with | [_, _], _ => rfl
theorem b_run (T : TX K mg) : BodyX P w K mg base "run" s_run ["tree", "actions", "journal", "action", "answer"] 10 (spRun K) := by
  intro cdv A outer s H vs Q E h X hr tk
  obtain ⟨t, a, xs, fs, rfl, ht, hd, hl, hb, q⟩ := h
  have D_act := D_act (P := P) (w := w) (base := base) T
  refine ⟨_, (pss_cons (ps_set (i := 2) sc_run.nd rfl (Or.inl rfl) (pe_lst pa_nil)) (pss_cons (ps_for (passes_of rfl) rfl (pi_tupU (K := K) (pv 1)) (pg_name (i := 3) sc_run.nd rfl (Or.inl rfl)) (pss_cons (ps_asg (pe_callX D_act hr tk (pa_cons (pv 0) (pa_cons (pv 3) pa_nil))) (pg_tupU (K := K) (n := 2) rfl (pgs_cons (pg_name (i := 4) sc_run.nd rfl (Or.inl rfl)) (pgs_cons (pg_name (i := 0) sc_run.nd rfl (Or.inl rfl)) pgs_nil)))) (pss_one (ps_expr (pe_appendU (K := K) (pv 2) (pe_tup (pa_cons (pv 3) (pa_cons (pv 4) pa_nil)))))))) (pss_one (ps_ret (pe_tup (pa_cons (pe_callTy (cr_tuple (K := K)) rfl (T.free 28) (by decide +kernel) (pa_cons (pv 2) pa_nil)) (pa_cons (pv 0) pa_nil))))))), ?_⟩
  obtain ⟨a', vs, e0, hvs, hds⟩ := dt_tup hd
  injection e0 with e0
  subst e0
  obtain ⟨as, rfl, hal, has⟩ := dta_acts hds
  walk_at "st"
  walk_at "nw"
  intro l H1 N1
  walk_at "st"
  have hv1 := SqT.kp N1.kp hvs
  first | refine ⟨a, rfl, ⟨_, hv1⟩, ?_⟩ | skip
  refine forQ (itn_t (ys := as) (u := V.ref)) (fun i σ H' => ∃ t' v3 v4 ws, σ = [some (.ref t'), some (.ref a), some (.ref l), v3, v4] ∧ Kp [] H H' ∧ H' l = some (.lst ws) ∧ DtAll K H' ws ((runF fs (xs.take i)).1.map entryD) ∧ ws.length ≤ i ∧ TreeG K H' t' (runF fs (xs.take i)).2)
    ⟨t, _, _, [], rfl, N1.kp, N1.at_, .nil, Nat.le_refl _, ht.kp N1.kp⟩ (by rintro i σ H' ⟨_, _, _, _, _, e, _⟩; exact SqT.kp e hvs) ?_ ?_
  · rintro i y σ _ H2 hi ⟨t', v3, v4, ws, rfl, e2, hl2, hws, hwl, ht'⟩ ⟨rfl, ai, hai, rfl⟩
    obtain ⟨x, hx⟩ : ∃ x, xs[i]? = some x := ⟨_, List.getElem?_eq_getElem (by omega)⟩
    obtain ⟨ai', hai', hact⟩ := has i x hx
    rw [hai] at hai'
    obtain rfl := Option.some.inj hai'
    have hxb := hb x (List.mem_of_getElem? hx)
    have et : runF fs (xs.take (i + 1)) = stepJ (runF fs (xs.take i)) x := by rw [take_succ' hx, run_snoc]
    walk_at "st"
    refine ⟨t', ai, x, _, rfl, ht', hact.kp e2, bad_sane hxb, fun _ => fun p v t2 H3 e3 hp hv hT => ?_, fun nm h => by rw [hxb] at h; cases h⟩
    walk_at "st"
    walk_at "nw"
    intro p4 H4 N4
    have hl4 := N4.keep (e3.at0 hl2)
    refine ⟨l, _, _, rfl, rfl, hl4, by rw [sizeLine_eq]; omega, ?_⟩
    walk_at "st"
    have kt : Kt H4 (upd H4 l (.lst (ws ++ [V.ref p4]))) := Kt.upd1 (NoT.lst hl4)
    have k4 : Kp [] H H4 := (e2.trans e3).trans N4.kp
    refine ⟨t2, _, _, ws ++ [V.ref p4], rfl, k4.fresh_mut N1.fr, upd_same, ?_, by rw [List.length_append, List.length_singleton]; omega, ?_⟩
    · rw [et]
      unfold stepJ
      rw [List.map_append]
      refine dta_snoc (DtAll.kt ((e3.trans N4.kp).kt.trans kt) hws) (.tup (SqT.kt kt (SqT.of N4.at_)) (.cons (Dt.kt ((e3.trans N4.kp).kt.trans kt) (hact.kp e2).dt) (.cons (Dt.kt (N4.kp.kt.trans kt) hv) .nil)))
    · rw [et]
      obtain ⟨⟨dx, dd, ls, g1, g2, g3, g4, g5⟩, gg⟩ := hT.kp N4.kp
      have n1 : t2 ≠ l := fun z => by rw [z, hl4] at g1; cases g1
      have n2 : dd ≠ l := fun z => by rw [z, hl4] at g2; cases g2
      exact ⟨⟨dx, dd, ls, upd_other n1 g1, upd_other n2 g2, fun r hr => SqT.kt kt (g3 r hr), g4, g5⟩, gg⟩
  · rintro σ H2 ⟨t', v3, v4, ws, rfl, e2, hl2, hws, hwl, ht'⟩
    rw [hal, List.take_length] at hws ht'
    walk_at "st"
    refine c_tupleL (SqL.of hl2) fun p3 H3 N3 => ?_
    walk_at "st"
    walk_at "nw"
    intro p4 H4 N4
    exact q p4 p3 t' H4 ((e2.trans N3.kp).trans N4.kp) (SqT.of N4.at_) (.tup (SqT.of (N4.keep N3.at_)) (DtAll.kp hws (N3.kp.trans N4.kp))) ((ht'.kp N3.kp).kp N4.kp)
theorem D_run (T : TX K mg) : DefAt P w K mg base (L2.CX P w) "run" 11 ["tree", "actions"] (spRun K) :=
  def_ofX T 24 47 sc_run bn_run (by walk_at "len") (b_run T)
def spChange (K : PySem.W.Frag) : Sp := fun vs H Q _ => ∃ (j t : Addr) (js : List Entry) (fs : List File), vs = [.ref j, .ref t] ∧ TreeG K H t fs ∧ Dt K H (.ref j) (jourD js) ∧ js.length ≤ 60 ∧ (∀ e ∈ js, EntOk e) ∧ ∀ v H', Kp [] H H' → Dt K H' v (changeD (changeF 0 fs js)) → Q v H'
theorem sc_first_change : FnScope ["journal", "tree", "at", "entry", "answer"] ["journal", "tree"] (defScope s_first_change) := ⟨rfl, rfl, rfl, by decide +kernel, rfl, by decide +kernel, by decide +kernel⟩
theorem bn_first_change : BindN "first_change" s_first_change ["journal", "tree"] := fun _ _ _ _ _ _ us hl => match us, hl with | [_, _], _ => rfl
theorem b_first_change (T : TX K mg) : BodyX P w K mg base "first_change" s_first_change ["journal", "tree", "at", "entry", "answer"] 10 (spChange K) := by
  intro cdv A outer s H vs Q E h X hr tk
  obtain ⟨j, t, js, fs, rfl, ht, hd, hl, hb, q⟩ := h
  have D_act := D_act (P := P) (w := w) (base := base) T
  refine ⟨_, (pss_cons (ps_for (passes_of rfl) rfl (pi_enumT (K := K) rfl (T.free 32) (pa_cons (pv 0) pa_nil)) (pg_tupU (K := K) (n := 2) rfl (pgs_cons (pg_name (i := 2) sc_first_change.nd rfl (Or.inl rfl)) (pgs_cons (pg_name (i := 3) sc_first_change.nd rfl (Or.inl rfl)) pgs_nil))) (pss_cons (ps_asg (pe_callX D_act hr tk (pa_cons (pv 1) (pa_cons (pe_ix (ix_U (K := K)) (pv 3) pe_int (fun _ _ => rfl)) pa_nil))) (pg_tupU (K := K) (n := 2) rfl (pgs_cons (pg_name (i := 4) sc_first_change.nd rfl (Or.inl rfl)) (pgs_cons (pg_name (i := 1) sc_first_change.nd rfl (Or.inl rfl)) pgs_nil)))) (pss_one (ps_if (pt_cmpR (op_neU (K := K) hr.units) (pv 4) (pe_ix (ix_U (K := K)) (pv 3) pe_int (fun _ _ => rfl)) (nomark _)) (pss_one (ps_ret (pe_tup (pa_cons (pv 2) (pa_cons (pv 4) pa_nil))))) pss_nil)))) (pss_one (ps_ret pe_non))), ?_⟩
  obtain ⟨a', vs, e0, hvs, hds⟩ := dt_tup hd
  injection e0 with e0
  subst e0
  have hvl : vs.length = js.length := by rw [dta_len hds, List.length_map]
  walk_at "st"
  first | refine ⟨j, _, rfl, hvs, ?_⟩ | skip
  refine forQ (itn_et (ys := vs) (u := id)) (fun i σ H' => ∃ t' fi v2 v3 v4, σ = [some (.ref j), some (.ref t'), v2, v3, v4] ∧ Kp [] H H' ∧ TreeG K H' t' fi ∧ changeF 0 fs js = changeF i fi (js.drop i)) ⟨t, fs, _, _, _, rfl, Kp.refl, ht, by rw [List.drop_zero]⟩ (by rintro i σ H' ⟨_, _, _, _, _, _, e, _⟩; rw [List.map_id]; exact SqT.kp e hvs) ?_ ?_
  · rintro i y σ H1 H2 hi ⟨t', fi, v2, v3, v4, rfl, e1, ht', hc⟩ ⟨T1, u, rfl, N1, hu⟩
    obtain ⟨e, he⟩ : ∃ e, js[i]? = some e := ⟨_, List.getElem?_eq_getElem (by omega)⟩
    have eok := hb e (List.mem_of_getElem? he)
    obtain ⟨p, a, v, h1, h2, h3, h4⟩ := ent_at hds he
    rw [hu] at h1
    obtain rfl := Option.some.inj h1
    rw [change_step he] at hc
    have k2 := e1.trans N1.kp
    have N1' := N1.at_
    walk_at "st"
    refine c_ixT (SqT.kp k2 h2) rfl ?_
    walk_at "st"
    refine ⟨t', a, e.1, fi, rfl, ht'.kp N1.kp, h3.kp k2, bad_sane eok.act, fun _ => fun p3 v3' t2 H3 e3 hp3 hv3 hT => ?_, fun nm h => by rw [eok.act] at h; cases h⟩
    have k3 := k2.trans e3
    walk_at "st"
    refine c_ixT (SqT.kp k3 h2) rfl ?_
    walk_at "st"
    refine c_neD hv3.dp (Dt.kp h4 k3).dp ((fit_act (goodF_iff.mp ht'.good) e.1).shaped (by decide)) (eok.ans.shaped (by decide)) ?_
    walk_at "st"
    refine c_iteNB (fun g => ?_) (fun g => ?_)
    · walk_at "st"
      walk_at "nw"
      intro p4 H4 N4
      refine q _ H4 (k3.trans N4.kp) ?_
      rw [hc, if_neg (by rw [g]; exact Bool.false_ne_true)]
      exact .tup (SqT.of N4.at_) (.cons (.int _) (.cons (Dt.kp hv3 N4.kp) .nil))
    · walk_at "st"
      exact ⟨t2, _, _, _, _, rfl, k3, hT, by rw [hc, if_pos g]⟩
  · rintro σ H1 ⟨t', fi, v2, v3, v4, rfl, e1, ht', hc⟩
    walk_at "st"
    refine q _ H1 e1 ?_
    rw [hc, List.drop_of_length_le (by omega)]
    exact .non
theorem D_first_change (T : TX K mg) : DefAt P w K mg base (L2.CX P w) "first_change" 11 ["journal", "tree"] (spChange K) :=
  def_ofX T 25 48 sc_first_change bn_first_change (by walk_at "len") (b_first_change T)
def spHolds (K : PySem.W.Frag) : Sp := fun vs H Q _ => ∃ (j t : Addr) (js : List Entry) (fs : List File), vs = [.ref j, .ref t] ∧ TreeG K H t fs ∧ Dt K H (.ref j) (jourD js) ∧ js.length ≤ 60 ∧ (∀ e ∈ js, EntOk e) ∧ ∀ H', Kp [] H H' → Q (.bl (changeF 0 fs js).isNone) H'
theorem sc_holds : FnScope ["journal", "tree"] ["journal", "tree"] (defScope s_holds) := ⟨rfl, rfl, rfl, by decide +kernel, rfl, by decide +kernel, by decide +kernel⟩
theorem bn_holds : BindN "holds" s_holds ["journal", "tree"] := fun _ _ _ _ _ _ us hl => match us, hl with | [_, _], _ => rfl
theorem b_holds (T : TX K mg) : BodyX P w K mg base "holds" s_holds ["journal", "tree"] 11 (spHolds K) := by
  intro cdv A outer s H vs Q E h X hr tk
  obtain ⟨j, t, js, fs, rfl, ht, hd, hl, hb, q⟩ := h
  have D_first_change := D_first_change (P := P) (w := w) (base := base) T
  refine ⟨_, (pss_one (ps_ret (pe_cmpR op_isU (pe_callX D_first_change hr tk (pa_cons (pv 0) (pa_cons (pv 1) pa_nil))) pe_non (nomark _)))), ?_⟩
  walk_at "st"
  refine ⟨j, t, js, fs, rfl, ht, hd, hl, hb, fun v H1 e1 hv => ?_⟩
  have g := q H1 e1
  walk_at "st"
  cases hc : changeF 0 fs js with
  | none =>
    rw [hc] at hv g
    rw [dt_none hv]
    exact g
  | some id =>
    rw [hc] at hv g
    obtain ⟨a, xs, rfl, _⟩ := dt_tup hv
    exact g
theorem D_holds (T : TX K mg) : DefAt P w K mg base (L2.CX P w) "holds" 12 ["journal", "tree"] (spHolds K) :=
  def_ofX T 26 49 sc_holds bn_holds (by walk_at "len") (b_holds T)
def spLead (K : PySem.W.Frag) : Sp := fun vs H Q _ => ∃ (j t : Addr) (js : List Entry) (fs : List File), vs = [.ref j, .ref t] ∧ TreeG K H t fs ∧ Dt K H (.ref j) (jourD js) ∧ js.length ≤ 60 ∧ (∀ e ∈ js, EntOk e) ∧ ∀ t' H', Kp [] H H' → TreeG K H' t' (leadF fs (js.map Prod.fst)) → Q (.ref t') H'
theorem sc_lead : FnScope ["journal", "tree", "action", "_"] ["journal", "tree"] (defScope s_lead) := ⟨rfl, rfl, rfl, by decide +kernel, rfl, by decide +kernel, by decide +kernel⟩
theorem bn_lead : BindN "lead" s_lead ["journal", "tree"] := fun _ _ _ _ _ _ us hl => match us, hl with | [_, _], _ => rfl
theorem b_lead (T : TX K mg) : BodyX P w K mg base "lead" s_lead ["journal", "tree", "action", "_"] 10 (spLead K) := by
  intro cdv A outer s H vs Q E h X hr tk
  obtain ⟨j, t, js, fs, rfl, ht, hd, hl, hb, q⟩ := h
  have D_act := D_act (P := P) (w := w) (base := base) T
  refine ⟨_, (pss_cons (ps_for (passes_of rfl) rfl (pi_tupU (K := K) (pv 0)) (pg_tupU (K := K) (n := 2) rfl (pgs_cons (pg_name (i := 2) sc_lead.nd rfl (Or.inl rfl)) (pgs_cons (pg_name (i := 3) sc_lead.nd rfl (Or.inl rfl)) pgs_nil))) (pss_one (ps_asg (pe_callX D_act hr tk (pa_cons (pv 1) (pa_cons (pv 2) pa_nil))) (pg_tupU (K := K) (n := 2) rfl (pgs_cons (pg_name (i := 3) sc_lead.nd rfl (Or.inl rfl)) (pgs_cons (pg_name (i := 1) sc_lead.nd rfl (Or.inl rfl)) pgs_nil)))))) (pss_one (ps_ret (pv 1)))), ?_⟩
  obtain ⟨a', vs, e0, hvs, hds⟩ := dt_tup hd
  injection e0 with e0
  subst e0
  have hvl : vs.length = js.length := by rw [dta_len hds, List.length_map]
  walk_at "st"
  have hvs' : SqT K H j (vs.map id) := by rw [List.map_id]; exact hvs
  first | refine ⟨j, rfl, ⟨_, hvs'⟩, ?_⟩ | skip
  refine forQ (itn_t (ys := vs) (u := id)) (fun i σ H' => ∃ t' v2 v3, σ = [some (.ref j), some (.ref t'), v2, v3] ∧ Kp [] H H' ∧ TreeG K H' t' (leadF fs ((js.map Prod.fst).take i))) ⟨t, _, _, rfl, Kp.refl, ht⟩ (by rintro i σ H' ⟨_, _, _, _, e, _⟩; exact SqT.kp e hvs') ?_ ?_
  · rintro i y σ _ H2 hi ⟨t', v2, v3, rfl, e1, ht'⟩ ⟨rfl, u, hu, rfl⟩
    obtain ⟨e, he⟩ : ∃ e, js[i]? = some e := ⟨_, List.getElem?_eq_getElem (by omega)⟩
    have eok := hb e (List.mem_of_getElem? he)
    obtain ⟨p, a, v, h1, h2, h3, h4⟩ := ent_at hds he
    rw [hu] at h1
    obtain rfl := Option.some.inj h1
    have et : (js.map Prod.fst).take (i + 1) = (js.map Prod.fst).take i ++ [e.1] := take_succ' (by rw [List.getElem?_map, he]; rfl)
    walk_at "st"
    refine c_unT (SqT.kp e1 h2) rfl ?_
    walk_at "st"
    refine ⟨t', a, e.1, _, rfl, ht', h3.kp e1, bad_sane eok.act, fun _ => fun p3 v3' t2 H3 e3 hp3 hv3 hT => ?_, fun nm h => by rw [eok.act] at h; cases h⟩
    walk_at "st"
    refine ⟨t2, _, _, rfl, e1.trans e3, ?_⟩
    rw [et, lead_snoc]
    exact hT
  · rintro σ H2 ⟨t', v2, v3, rfl, e1, ht'⟩
    rw [List.take_of_length_le (by rw [List.length_map]; omega)] at ht'
    walk_at "st"
    exact q t' H2 e1 ht'
theorem D_lead (T : TX K mg) : DefAt P w K mg base (L2.CX P w) "lead" 11 ["journal", "tree"] (spLead K) :=
  def_ofX T 27 50 sc_lead bn_lead (by walk_at "len") (b_lead T)
end
end K36



namespace K36
open PySem L2 Sa
local macro_rules | `(tactic| walk_at "s1") => `(tactic| first | (with_reducible apply c_dgetK))
local macro_rules | `(tactic| walk_at "s1") => `(tactic| (with_reducible apply c_raiseO))
/-- rows of actions: a list at a -/
structure ActsL (K : PySem.W.Frag) (H : Hp) (a : Addr) (xs : List Action) : Prop where
  ex : ∃ as : List Addr, SqL K H a (as.map V.ref) ∧ as.length = xs.length ∧ ∀ (i : Nat) (x : Action), xs[i]? = some x → ∃ ad, as[i]? = some ad ∧ ActAt K H ad x
theorem ActsL.kp {K : PySem.W.Frag} {H H' : Hp} {a : Addr} {xs : List Action} (h : ActsL K H a xs) (e : Kp [] H H') : ActsL K H' a xs := by
  obtain ⟨as, h1, h2, h3⟩ := h.ex
  exact ⟨as, SqL.kp e h1, h2, fun i x hx => by obtain ⟨ad, g1, g2⟩ := h3 i x hx; exact ⟨ad, g1, g2.kp e⟩⟩
theorem FilesAt.updL {K : PySem.W.Frag} {H : Hp} {d l : Addr} {fs : List File} {xs : List V} {o : HO} (h : FilesAt K H d fs) (hl : H l = some (.lst xs)) : FilesAt K (upd H l o) d fs := by
  obtain ⟨ls, h1, h2, h3⟩ := h.ex
  have n : d ≠ l := fun z => by rw [z, hl] at h1; cases h1
  exact ⟨ls, upd_other n h1, fun r hr => SqT.kt (Kt.upd1 (NoT.lst hl)) (h2 r hr), h3⟩
section
variable {P : Program} {w : World} {K : PySem.W.Frag} {mg : Str → Option Value} {base : Heap}
def spLRun (K : PySem.W.Frag) : Sp := fun vs H Q _ => ∃ (f a : Addr) (xs : List Action) (fs : List File), vs = [.ref f, .ref a] ∧ FilesAt K H f fs ∧ GoodP fs ∧ ActsL K H a xs ∧ xs.length ≤ 60 ∧ (∀ x ∈ xs, x.bad = none) ∧
  ∀ p j f' fs' H', Kp [] H H' → H' p = some (.lst [.ref j, .ref f']) → Dt K H' (.ref j) (jourD (runF (sortF fs) xs).1) → FilesAt K H' f' fs' → GoodP fs' → sortF fs' = (runF (sortF fs) xs).2 → Q (.ref p) H'
def spLChange (K : PySem.W.Frag) : Sp := fun vs H Q _ => ∃ (j f : Addr) (js : List Entry) (fs : List File), vs = [.ref j, .ref f] ∧ FilesAt K H f fs ∧ GoodP fs ∧ Dt K H (.ref j) (jourD js) ∧ js.length ≤ 60 ∧ (∀ e ∈ js, EntOk e) ∧ ∀ v H', Kp [] H H' → Dt K H' v (changeD (changeF 0 (sortF fs) js)) → Q v H'
end
end K36



namespace K36
open PySem L2 Sa
/-! ## answers, bounded more sharply -/
theorem fit_pair {w : Str} {d : PyData} {n m : Nat} (h : okS w = true) (hl : w.length ≤ 11) (hd : Fit n m d) : Fit (n + 1) (m + 13) (.tuple [.str w, d]) :=
  ((FitAll.cons ((Fit.str h hl).mono (Nat.zero_le n) (Nat.le_refl _)) (FitAll.cons hd FitAll.nil)).tup).mono (Nat.le_refl _) (by omega)
theorem fit_ask2 {fs : List File} (h : GoodP fs) (x : Action) : Fit 3 14000 (askF fs x) := by
  have no : Fit 3 14000 (wordD "none") := (Fit.word (by decide +kernel) (by decide)).mono (by omega) (by omega)
  cases x with
  | read p =>
    simp only [askF]
    split
    · exact no
    · rename_i ls g
      obtain ⟨l1, l2⟩ := lines_len (h.lines _ (at_mem g))
      exact (fit_two (by decide +kernel) (by decide) (Fit.strs (w := 20) (m := 12) (fun y hy => ⟨plain_ok (l2 y hy).2, (l2 y hy).1⟩) l1) (by omega)).mono (by omega) (by omega)
  | kind z =>
    simp only [askF]
    split
    · exact (Fit.word (by decide +kernel) (by decide)).mono (by omega) (by omega)
    · split
      · exact (Fit.word (by decide +kernel) (by decide)).mono (by omega) (by omega)
      · exact no
  | list z =>
    simp only [askF]
    split
    · refine (fit_two (by decide +kernel) (by decide) (Fit.strs (ys := namesF fs z) (w := 27) (m := 20) (fun y hy => ?_) ?_) (by omega)).mono (by omega) (by omega)
      · have h1 := ded_sub _ y ((sortS_perm _).subset hy)
        obtain ⟨p, hp, rfl⟩ := List.mem_map.mp h1
        obtain ⟨f, hf, rfl⟩ := List.mem_map.mp (List.mem_filter.mp hp).1
        exact first_ok (path_ok (h.path f hf)) (path_len (h.path f hf))
      · unfold namesF
        rw [sortS_len]
        have := ded_le ((insideF fs z).map (firstN z))
        rw [List.length_map] at this
        have := inside_len h z
        omega
    · exact no
  | count z =>
    simp only [askF]
    split
    · have := inside_len h z
      exact (fit_two (by decide +kernel) (by decide) ((Fit.nat (n := (insideF fs z).length) (by omega)).mono (Nat.le_refl _) (by omega : 10 ≤ 11)) (by omega)).mono (by omega) (by omega)
    · exact no
  | find z w =>
    simp only [askF]
    split
    · have rows : ∀ p ∈ foundPs fs z, (rowsD p ((at? fs p).getD []) w).length ≤ 12 ∧ ∀ d ∈ rowsD p ((at? fs p).getD []) w, Fit 1 54 d := fun p hp => by
        obtain ⟨ls, hls⟩ := foundPs_mem hp
        rw [hls]
        exact fit_rows (h.path _ (at_mem hls)) (lines_len (h.lines _ (at_mem hls))).1
      have fl : (foundPs fs z).length ≤ 21 := by
        unfold foundPs
        rw [sortS_len, List.length_append]
        have := inside_len h z
        split
        · rw [List.length_singleton]; omega
        · rw [List.length_nil]; omega
      have h1 := flat_len (fun p => rowsD p ((at? fs p).getD []) w) 12 (foundPs fs z) fun p hp => (rows p hp).1
      refine (fit_pair (by decide +kernel) (by decide) (Fit.tup (n := 1) (w := 54) (m := 252) (ds := foundF fs z w) (fun d hd => ?_) ?_)).mono (by omega) (by omega)
      · obtain ⟨p, hp, hd⟩ := List.mem_flatMap.mp hd
        exact (rows p hp).2 d hd
      · unfold foundF
        omega
    · exact no
  | _ => exact no
theorem fit_act2 {fs : List File} (h : GoodP fs) (x : Action) : Fit 3 14000 (actF fs x).1 := by
  have wd : ∀ z : Str, z ∈ (["none", "done", "missing", "blocked", "full", "absent", "ambiguous", "long"] : List Str) → Fit 3 14000 (wordD z) := fun z hz => by
    have := (by decide +kernel : ∀ z ∈ (["none", "done", "missing", "blocked", "full", "absent", "ambiguous", "long"] : List Str), okS z = true ∧ z.length ≤ 11) z hz
    exact (Fit.word this.1 this.2).mono (by omega) (by omega)
  unfold actF
  split
  · exact fit_ask2 h x
  · cases x with
    | write p ls =>
      simp only [deedF]
      split
      · exact wd _ (by decide +kernel)
      · split <;> exact wd _ (by decide +kernel)
    | remove p =>
      simp only [deedF]
      split <;> exact wd _ (by decide +kernel)
    | move p t =>
      simp only [deedF]
      split
      · exact wd _ (by decide +kernel)
      · split <;> exact wd _ (by decide +kernel)
    | splice p old new =>
      simp only [deedF]
      split
      · exact wd _ (by decide +kernel)
      · split
        · exact wd _ (by decide +kernel)
        · split <;> exact wd _ (by decide +kernel)
        · exact wd _ (by decide +kernel)
    | _ => exact wd _ (by decide +kernel)
theorem fit_entry2 {e : Entry} (h : EntOk e) (h2 : Fit 3 14000 e.2) : Fit 4 15014 (entryD e) :=
  ((FitAll.cons ((fit_action h.act).mono (by omega : 2 ≤ 3) (Nat.le_refl _)) (FitAll.cons h2 FitAll.nil)).tup).mono (by omega) (by omega)
theorem fit_jour2 {js : List Entry} {m : Nat} (h : ∀ e ∈ js, EntOk e ∧ Fit 3 14000 e.2) (hl : js.length ≤ m) : Fit 5 (15015 * m) (jourD js) :=
  (Fit.tup (n := 4) (w := 15014) (m := m) (fun d hd => by obtain ⟨e, he, rfl⟩ := List.mem_map.mp hd; exact fit_entry2 (h e he).1 (h e he).2) (by rw [List.length_map]; exact hl)).mono (by omega) (by omega)
end K36



namespace K36
open PySem L2 Sa
local macro_rules | `(tactic| walk_at "s1") => `(tactic| first | (with_reducible apply c_dgetK))
local macro_rules | `(tactic| walk_at "s1") => `(tactic| (with_reducible apply c_raiseO))
/-! ## the draws of the laws of trunks -/
def tPaths : List Str := ["a", "b", "c", "d", "a/x", "a/y", "b/x", "b/x/z", "c/q", "e"]
def tPlaces : List Str := ["", "a", "b", "b/x", "c", "a/y"]
def tLines : List Str := ["", "p", "q", "p q", "r"]
theorem tPaths_ok : ∀ z ∈ tPaths, isPathS z = true := by decide +kernel
theorem tPlaces_ok : ∀ z ∈ tPlaces, isPlaceS z = true := by decide +kernel
theorem tLines_ok : ∀ z ∈ tLines, isLineS z = true := by decide +kernel
section
variable {P : Program} {w : World} {K : PySem.W.Frag} {mg : Str → Option Value} {base : Heap}
theorem sc__law_alike : FnScope ["_law_one_here", "_law_two"] ["_law_one_here", "_law_two"] (defScope s__law_alike) := ⟨rfl, rfl, rfl, by decide +kernel, rfl, by decide +kernel, by decide +kernel⟩
theorem bn__law_alike : BindN "_law_alike" s__law_alike ["_law_one_here", "_law_two"] := fun _ _ _ _ _ _ us hl => match us, hl with | [_, _], _ => rfl
theorem b__law_alike (T : TX K mg) : BodyG P w K mg base "_law_alike" s__law_alike ["_law_one_here", "_law_two"] 1 (spAlike K) := by
  intro cdv A outer s H vs Q E h X hr hg
  obtain ⟨x, y, d, rfl, hx, hy, nd, q⟩ := h
  refine ⟨_, (pss_one (ps_ret (pe_cmpR (op_eqU (K := K) hr.units) (pe_callB (cr_reprD (K := K) hg (un100 hr)) rfl (T.free 55) (by decide +kernel) (pa_cons (pv 0) pa_nil)) (pe_callB (cr_reprD (K := K) hg (un100 hr)) rfl (T.free 55) (by decide +kernel) (pa_cons (pv 1) pa_nil)) (nomark _)))), ?_⟩
  walk_at "st"
  refine c_repr hx nd ?_
  walk_at "st"
  refine c_repr hy nd ?_
  walk_at "st"
  rw [decide_eq_true rfl]
  exact q
theorem D__law_alike (T : TX K mg) : DefG P w K mg base "_law_alike" 2 ["_law_one_here", "_law_two"] (spAlike K) :=
  defG_of T 31 56 sc__law_alike bn__law_alike (by walk_at "len") (b__law_alike T)
def spTbPath : Sp := fun vs H Q _ => ∃ (b d : Addr), vs = [.ref b] ∧ Bx H b d ∧ ∀ z H', isPathS z = true → Kp [b] H H' → Bx H' b d → Q (.str z) H'
theorem sc__law_path : FnScope ["_law_box"] ["_law_box"] (defScope s__law_path) := ⟨rfl, rfl, rfl, by decide +kernel, rfl, by decide +kernel, by decide +kernel⟩
theorem bn__law_path : BindN "_law_path" s__law_path ["_law_box"] := fun _ _ _ _ _ _ us hl => match us, hl with | [_], _ => rfl
theorem b__law_path (T : TX K mg) : Body P w K mg base "_law_path" s__law_path ["_law_box"] 2 (spTbPath) := by
  intro cdv A outer s H vs Q E h X hr
  obtain ⟨b, d, rfl, B, q⟩ := h
  have D__law_draw := D__law_draw (P := P) (w := w) (base := base) T
  refine ⟨_, (pss_one (ps_ret (pe_ix (ix_U (K := K)) (pe_lst (pa_cons pe_str (pa_cons pe_str (pa_cons pe_str (pa_cons pe_str (pa_cons pe_str (pa_cons pe_str (pa_cons pe_str (pa_cons pe_str (pa_cons pe_str (pa_cons pe_str pa_nil))))))))))) (pe_callA D__law_draw hr pass0 (pa_cons (pv 0) (pa_cons pe_int pa_nil))) (fun _ _ => rfl)))), ?_⟩
  walk_at "st"
  walk_at "nw"
  intro p H1 N
  walk_at "st"
  refine ⟨b, d, 10, rfl, B.nw N, by decide, fun i H2 h0 h1 e2 B2 => ?_⟩
  exact c_pickM (u := V.str) tPaths (B.pick N e2) h0 h1 fun z hz => q z H2 (tPaths_ok z hz) (N.kp.trans e2) B2
theorem D__law_path (T : TX K mg) : DefAt P w K mg base CX0 "_law_path" 3 ["_law_box"] (spTbPath) :=
  def_of T 32 57 sc__law_path bn__law_path (by walk_at "len") (b__law_path T)
def spTbPlace : Sp := fun vs H Q _ => ∃ (b d : Addr), vs = [.ref b] ∧ Bx H b d ∧ ∀ z H', isPlaceS z = true → Kp [b] H H' → Bx H' b d → Q (.str z) H'
theorem sc__law_place : FnScope ["_law_box"] ["_law_box"] (defScope s__law_place) := ⟨rfl, rfl, rfl, by decide +kernel, rfl, by decide +kernel, by decide +kernel⟩
theorem bn__law_place : BindN "_law_place" s__law_place ["_law_box"] := fun _ _ _ _ _ _ us hl => match us, hl with | [_], _ => rfl
theorem b__law_place (T : TX K mg) : Body P w K mg base "_law_place" s__law_place ["_law_box"] 2 (spTbPlace) := by
  intro cdv A outer s H vs Q E h X hr
  obtain ⟨b, d, rfl, B, q⟩ := h
  have D__law_draw := D__law_draw (P := P) (w := w) (base := base) T
  refine ⟨_, (pss_one (ps_ret (pe_ix (ix_U (K := K)) (pe_lst (pa_cons pe_str (pa_cons pe_str (pa_cons pe_str (pa_cons pe_str (pa_cons pe_str (pa_cons pe_str pa_nil))))))) (pe_callA D__law_draw hr pass0 (pa_cons (pv 0) (pa_cons pe_int pa_nil))) (fun _ _ => rfl)))), ?_⟩
  walk_at "st"
  walk_at "nw"
  intro p H1 N
  walk_at "st"
  refine ⟨b, d, 6, rfl, B.nw N, by decide, fun i H2 h0 h1 e2 B2 => ?_⟩
  exact c_pickM (u := V.str) tPlaces (B.pick N e2) h0 h1 fun z hz => q z H2 (tPlaces_ok z hz) (N.kp.trans e2) B2
theorem D__law_place (T : TX K mg) : DefAt P w K mg base CX0 "_law_place" 3 ["_law_box"] (spTbPlace) :=
  def_of T 33 58 sc__law_place bn__law_place (by walk_at "len") (b__law_place T)
theorem sc__law_lines : FnScope ["_law_box", "_law_most", "_law_k"] ["_law_box", "_law_most"] (defScope s__law_lines) := ⟨rfl, rfl, rfl, by decide +kernel, rfl, by decide +kernel, by decide +kernel⟩
theorem bn__law_lines : BindN "_law_lines" s__law_lines ["_law_box", "_law_most"] := fun _ _ _ _ _ _ us hl => match us, hl with | [_, _], _ => rfl
theorem b__law_lines (T : TX K mg) : Body P w K mg base "_law_lines" s__law_lines ["_law_box", "_law_most", "_law_k"] 2 (spLinesD K) := by
  intro cdv A outer s H vs Q E h X hr
  obtain ⟨b, d, m, rfl, B, m0, m1, q⟩ := h
  have D__law_draw := D__law_draw (P := P) (w := w) (base := base) T
  refine ⟨_, (pss_one (ps_ret (pe_callTy (cr_tuple (K := K)) rfl (T.free 28) (by decide +kernel) (pa_cons (pe_lc (own := [("_law_k", 2)]) rfl sc__law_lines.nd (pi_range1 rfl (T.free 27) (pa_cons (pe_callA D__law_draw hr pass0 (pa_cons (pv 0) (pa_cons (pe_op (op_addU (K := K)) (pv 1) pe_int) pa_nil))) pa_nil)) (blkOk_by (N := ["_law_box", "_law_most", "_law_k"]) (sc := defScope s__law_lines) (by decide +kernel)) (fun _ _ _ _ _ => (pg_name (i := 2) sc__law_lines.nd rfl (Or.inl rfl))) (fun _ _ _ _ _ => pts_nil) (fun _ _ _ _ _ => (pe_ix (ix_U (K := K)) (pe_lst (pa_cons pe_str (pa_cons pe_str (pa_cons pe_str (pa_cons pe_str (pa_cons pe_str pa_nil)))))) (pe_callA D__law_draw hr pass0 (pa_cons (pv 0) (pa_cons pe_int pa_nil))) (fun _ _ => rfl)))) pa_nil)))), ?_⟩
  walk_at "st"
  refine ⟨b, d, m + 1, rfl, B, by omega, fun i H1 h0 h1 e1 B1 => ?_⟩
  walk_at "st"
  refine lcR_draw V.str (fun z => z ∈ tLines) B1 (by omega) (fun i H' R S hi e B3 k => ?_) (fun Dl H' ns hD hlen hP e B3 hacc => ?_)
  · walk_at "st"
    refine ⟨rfl, ?_⟩
    walk_at "st"
    walk_at "nw"
    intro p2 H4 N4
    walk_at "st"
    refine ⟨b, d, 5, rfl, B3.nw N4, by decide, fun j H5 g0 g1 e5 B5 => ?_⟩
    exact c_pickM (u := V.str) tLines (B3.pick N4 e5) g0 g1 fun z hz => k z H5 hz (N4.kp.trans e5) B5
  · refine c_tupleL (SqL.of hacc) fun p H2 N => ?_
    refine q p ns H2 ?_ (by omega) ((e1.trans e).trans N.kp) (B3.nw N) (SqT.of N.at_)
    unfold isLinesS
    rw [decide_eq_true (by omega), Bool.true_and, List.all_eq_true]
    exact fun z hz => tLines_ok z (hP z hz)
theorem D__law_lines (T : TX K mg) : DefAt P w K mg base CX0 "_law_lines" 3 ["_law_box", "_law_most"] (spLinesD K) :=
  def_of T 34 59 sc__law_lines bn__law_lines (by walk_at "len") (b__law_lines T)
def spTbDrawn (K : PySem.W.Frag) (p : Action → Bool) : Sp := fun vs H Q _ => ∃ (b d : Addr), vs = [.ref b] ∧ Bx H b d ∧ ∀ a x H', x.bad = none → p x = true → Kp [b] H H' → Bx H' b d → ActAt K H' a x → Q (.ref a) H'
theorem sc__law_question : FnScope ["_law_box", "_law_kind"] ["_law_box"] (defScope s__law_question) := ⟨rfl, rfl, rfl, by decide +kernel, rfl, by decide +kernel, by decide +kernel⟩
theorem bn__law_question : BindN "_law_question" s__law_question ["_law_box"] := fun _ _ _ _ _ _ us hl => match us, hl with | [_], _ => rfl
theorem b__law_question (T : TX K mg) : Body P w K mg base "_law_question" s__law_question ["_law_box", "_law_kind"] 3 (spTbDrawn K fun x => x.isQ) := by
  intro cdv A outer s H vs Q E h X hr
  obtain ⟨b, d, rfl, B, q⟩ := h
  have D__law_draw := D__law_draw (P := P) (w := w) (base := base) T; have D__law_path := D__law_path (P := P) (w := w) (base := base) T; have D__law_place := D__law_place (P := P) (w := w) (base := base) T
  refine ⟨_, (pss_cons (ps_set (i := 1) sc__law_question.nd rfl (Or.inl rfl) (pe_callA D__law_draw hr pass0 (pa_cons (pv 0) (pa_cons pe_int pa_nil)))) (pss_cons (ps_if (pt_cmpR op_ltU (pv 1) pe_int (nomark _)) (pss_one (ps_ret (pe_tup (pa_cons pe_str (pa_cons (pe_callA D__law_path hr pass0 (pa_cons (pv 0) pa_nil)) pa_nil))))) pss_nil) (pss_cons (ps_if (pt_cmpR (op_eqU (K := K) hr.units) (pv 1) pe_int (nomark _)) (pss_one (ps_ret (pe_tup (pa_cons pe_str (pa_cons (pe_callA D__law_place hr pass0 (pa_cons (pv 0) pa_nil)) (pa_cons (pe_ix (ix_U (K := K)) (pe_lst (pa_cons pe_str (pa_cons pe_str (pa_cons pe_str (pa_cons pe_str pa_nil))))) (pe_callA D__law_draw hr pass0 (pa_cons (pv 0) (pa_cons pe_int pa_nil))) (fun _ _ => rfl)) pa_nil)))))) pss_nil) (pss_one (ps_ret (pe_tup (pa_cons (pe_ix (ix_U (K := K)) (pe_lst (pa_cons pe_str (pa_cons pe_str (pa_cons pe_str pa_nil)))) (pe_op op_subU (pv 1) pe_int) (fun _ _ => rfl)) (pa_cons (pe_callA D__law_place hr pass0 (pa_cons (pv 0) pa_nil)) pa_nil)))))))), ?_⟩
  walk_at "st"
  refine ⟨b, d, 6, rfl, B, by decide, fun i H2 h0 h1 e2 B2 => ?_⟩
  walk_at "st"
  refine c_ite (fun g1 => ?_) (fun g1 => ?_)
  · walk_at "st"
    refine ⟨b, d, rfl, B2, fun z H3 hz e3 B3 => ?_⟩
    walk_at "st"
    walk_at "nw"
    intro p4 H4 N4
    exact q p4 (.read z) H4 (by simp only [Action.bad, hz, if_true]) rfl ((e2.trans e3).trans N4.kp) (B3.nw N4) (SqT.of N4.at_)
  walk_at "st"
  refine c_ite (fun g2 => ?_) (fun g2 => ?_)
  · walk_at "st"
    refine ⟨b, d, rfl, B2, fun z H3 hz e3 B3 => ?_⟩
    walk_at "st"
    walk_at "nw"
    intro p4 H4 N4
    walk_at "st"
    refine ⟨b, d, 4, rfl, B3.nw N4, by decide, fun j H5 j0 j1 e5 B5 => ?_⟩
    refine c_pickM (u := V.str) ["p", "q", "r", "p q"] (B3.pick N4 e5) j0 j1 fun y hy => ?_
    have hw : isWordS y = true := (by decide +kernel : ∀ y ∈ (["p", "q", "r", "p q"] : List Str), isWordS y = true) y hy
    walk_at "st"
    walk_at "nw"
    intro p6 H6 N6
    refine q p6 (.find z y) H6 (by simp only [Action.bad, hz, hw, if_true]) rfl ((((e2.trans e3).trans N4.kp).trans e5).trans N6.kp) (B5.nw N6) (SqT.of N6.at_)
  walk_at "st"
  walk_at "nw"
  intro p4 H4 N4
  walk_at "st"
  refine c_pickM (u := V.str) ["kind", "list", "count"] (SqL.of N4.at_) (by omega) (by show i - 3 < 3; omega) fun y hy => ?_
  walk_at "st"
  refine ⟨b, d, rfl, B2.nw N4, fun z H5 hz e5 B5 => ?_⟩
  walk_at "st"
  walk_at "nw"
  intro p6 H6 N6
  have k6 := ((e2.trans N4.kp).trans e5).trans N6.kp
  simp only [List.mem_cons, List.not_mem_nil, or_false] at hy
  rcases hy with rfl | rfl | rfl
  · exact q p6 (.kind z) H6 (by simp only [Action.bad, hz, if_true]) rfl k6 (B5.nw N6) (SqT.of N6.at_)
  · exact q p6 (.list z) H6 (by simp only [Action.bad, hz, if_true]) rfl k6 (B5.nw N6) (SqT.of N6.at_)
  · exact q p6 (.count z) H6 (by simp only [Action.bad, hz, if_true]) rfl k6 (B5.nw N6) (SqT.of N6.at_)
theorem D__law_question (T : TX K mg) : DefAt P w K mg base CX0 "_law_question" 4 ["_law_box"] (spTbDrawn K fun x => x.isQ) :=
  def_of T 35 60 sc__law_question bn__law_question (by walk_at "len") (b__law_question T)
theorem sc__law_action : FnScope ["_law_box", "_law_kind"] ["_law_box"] (defScope s__law_action) := ⟨rfl, rfl, rfl, by decide +kernel, rfl, by decide +kernel, by decide +kernel⟩
theorem bn__law_action : BindN "_law_action" s__law_action ["_law_box"] := fun _ _ _ _ _ _ us hl => match us, hl with | [_], _ => rfl
theorem b__law_action (T : TX K mg) : Body P w K mg base "_law_action" s__law_action ["_law_box", "_law_kind"] 4 (spTbDrawn K fun _ => true) := by
  intro cdv A outer s H vs Q E h X hr
  obtain ⟨b, d, rfl, B, q⟩ := h
  have D__law_draw := D__law_draw (P := P) (w := w) (base := base) T; have D__law_lines := D__law_lines (P := P) (w := w) (base := base) T; have D__law_path := D__law_path (P := P) (w := w) (base := base) T; have D__law_question := D__law_question (P := P) (w := w) (base := base) T
  refine ⟨_, (pss_cons (ps_set (i := 1) sc__law_action.nd rfl (Or.inl rfl) (pe_callA D__law_draw hr pass0 (pa_cons (pv 0) (pa_cons pe_int pa_nil)))) (pss_cons (ps_if (pt_cmpR op_ltU (pv 1) pe_int (nomark _)) (pss_one (ps_ret (pe_callA D__law_question hr pass0 (pa_cons (pv 0) pa_nil)))) pss_nil) (pss_cons (ps_if (pt_cmpR op_ltU (pv 1) pe_int (nomark _)) (pss_one (ps_ret (pe_tup (pa_cons pe_str (pa_cons (pe_callA D__law_path hr pass0 (pa_cons (pv 0) pa_nil)) (pa_cons (pe_callA D__law_lines hr pass0 (pa_cons (pv 0) (pa_cons pe_int pa_nil))) pa_nil)))))) pss_nil) (pss_cons (ps_if (pt_cmpR (op_eqU (K := K) hr.units) (pv 1) pe_int (nomark _)) (pss_one (ps_ret (pe_tup (pa_cons pe_str (pa_cons (pe_callA D__law_path hr pass0 (pa_cons (pv 0) pa_nil)) pa_nil))))) pss_nil) (pss_cons (ps_if (pt_cmpR (op_eqU (K := K) hr.units) (pv 1) pe_int (nomark _)) (pss_one (ps_ret (pe_tup (pa_cons pe_str (pa_cons (pe_callA D__law_path hr pass0 (pa_cons (pv 0) pa_nil)) (pa_cons (pe_callA D__law_path hr pass0 (pa_cons (pv 0) pa_nil)) pa_nil)))))) pss_nil) (pss_one (ps_ret (pe_tup (pa_cons pe_str (pa_cons (pe_callA D__law_path hr pass0 (pa_cons (pv 0) pa_nil)) (pa_cons (pe_tup (pa_cons (pe_ix (ix_U (K := K)) (pe_lst (pa_cons pe_str (pa_cons pe_str (pa_cons pe_str pa_nil)))) (pe_callA D__law_draw hr pass0 (pa_cons (pv 0) (pa_cons pe_int pa_nil))) (fun _ _ => rfl)) pa_nil)) (pa_cons (pe_callA D__law_lines hr pass0 (pa_cons (pv 0) (pa_cons pe_int pa_nil))) pa_nil)))))))))))), ?_⟩
  walk_at "st"
  refine ⟨b, d, 9, rfl, B, by decide, fun i H2 h0 h1 e2 B2 => ?_⟩
  walk_at "st"
  refine c_ite (fun g1 => ?_) (fun g1 => ?_)
  · walk_at "st"
    exact ⟨b, d, rfl, B2, fun a x H3 hb _ e3 B3 ha => q a x H3 hb rfl (e2.trans e3) B3 ha⟩
  walk_at "st"
  refine c_ite (fun g2 => ?_) (fun g2 => ?_)
  · walk_at "st"
    refine ⟨b, d, rfl, B2, fun z H3 hz e3 B3 => ?_⟩
    walk_at "st"
    refine ⟨b, d, 4, rfl, B3, by decide, by decide, fun la ls H4 hls _ e4 B4 hla => ?_⟩
    walk_at "st"
    walk_at "nw"
    intro p5 H5 N5
    exact q p5 (.write z ls) H5 (by simp only [Action.bad, hz, hls, if_true]) rfl (((e2.trans e3).trans e4).trans N5.kp) (B4.nw N5) ⟨la, SqT.of N5.at_, SqT.kp N5.kp hla⟩
  walk_at "st"
  refine c_ite (fun g3 => ?_) (fun g3 => ?_)
  · walk_at "st"
    refine ⟨b, d, rfl, B2, fun z H3 hz e3 B3 => ?_⟩
    walk_at "st"
    walk_at "nw"
    intro p5 H5 N5
    exact q p5 (.remove z) H5 (by simp only [Action.bad, hz, if_true]) rfl ((e2.trans e3).trans N5.kp) (B3.nw N5) (SqT.of N5.at_)
  walk_at "st"
  refine c_ite (fun g4 => ?_) (fun g4 => ?_)
  · walk_at "st"
    refine ⟨b, d, rfl, B2, fun z H3 hz e3 B3 => ?_⟩
    walk_at "st"
    refine ⟨b, d, rfl, B3, fun y H4 hy e4 B4 => ?_⟩
    walk_at "st"
    walk_at "nw"
    intro p5 H5 N5
    exact q p5 (.move z y) H5 (by simp only [Action.bad, hz, hy, if_true]) rfl (((e2.trans e3).trans e4).trans N5.kp) (B4.nw N5) (SqT.of N5.at_)
  walk_at "st"
  refine ⟨b, d, rfl, B2, fun z H3 hz e3 B3 => ?_⟩
  walk_at "st"
  walk_at "nw"
  intro p4 H4 N4
  walk_at "st"
  refine ⟨b, d, 3, rfl, B3.nw N4, by decide, fun j H5 j0 j1 e5 B5 => ?_⟩
  refine c_pickM (u := V.str) ["p", "q", ""] (B3.pick N4 e5) j0 j1 fun y hy => ?_
  have hy1 : isLinesS [y] = true := (by decide +kernel : ∀ y ∈ (["p", "q", ""] : List Str), isLinesS [y] = true) y hy
  walk_at "st"
  walk_at "nw"
  intro p6 H6 N6
  walk_at "st"
  refine ⟨b, d, 3, rfl, B5.nw N6, by decide, by decide, fun la ls H7 hls _ e7 B7 hla => ?_⟩
  walk_at "st"
  walk_at "nw"
  intro p8 H8 N8
  have h6 : SqT K H7 p6 ([y].map V.str) := SqT.kt ((B5.nw N6).kt e7) (SqT.of N6.at_)
  exact q p8 (.splice z [y] ls) H8 (by simp [Action.bad, hz, hy1, hls]) rfl ((((((e2.trans e3).trans N4.kp).trans e5).trans N6.kp).trans e7).trans N8.kp) (B7.nw N8) ⟨p6, la, SqT.of N8.at_, SqT.kp N8.kp h6, SqT.kp N8.kp hla⟩
theorem D__law_action (T : TX K mg) : DefAt P w K mg base CX0 "_law_action" 5 ["_law_box"] (spTbDrawn K fun _ => true) :=
  def_of T 36 61 sc__law_action bn__law_action (by walk_at "len") (b__law_action T)
end
end K36



namespace K36
open PySem L2 Sa
local macro_rules | `(tactic| walk_at "s1") => `(tactic| first | (with_reducible apply c_dgetK))
local macro_rules | `(tactic| walk_at "s1") => `(tactic| (with_reducible apply c_raiseO))
theorem fil_strs (ps : List Str) (p : Str → Bool) : (((List.range ps.length).filter fun i => p (ps.getD i Str.empty)).map fun i => V.str (ps.getD i Str.empty)) = (ps.filter p).map V.str := by
  have : ps = (List.range ps.length).map fun i => ps.getD i Str.empty := by
    apply List.ext_getElem?
    intro n
    rw [List.getElem?_map]
    by_cases hn : n < ps.length
    · rw [List.getElem?_range hn, List.getElem?_eq_getElem hn]
      simp [List.getD_eq_getElem?_getD, List.getElem?_eq_getElem hn]
    · rw [List.getElem?_eq_none (by omega), List.getElem?_eq_none (by rw [List.length_range]; omega)]
      rfl
  conv => rhs; rw [this]
  rw [List.filter_map, List.map_map]
  rfl
theorem inside_any {fs : List File} (z : Str) : decide (insideF (sortF fs) z = []) = !decide (0 < (insideF fs z).length) := by
  rw [← (inside_perm (sortF_perm fs) z).length_eq, Bool.eq_iff_iff, decide_eq_true_eq, Bool.not_eq_true', decide_eq_false_iff_not]
  cases insideF (sortF fs) z with
  | nil => simp
  | cons a r => simp
theorem folder_eq (gs : List File) (z : Str) : isFolderF gs z = (decide (z = PySem.Str.ofString "") || !decide (insideF gs z = [])) := by
  unfold isFolderF
  congr 1
  rw [Bool.eq_iff_iff]
  unfold insideF
  cases (pathsOf gs).filter fun y => isInsideS y z with
  | nil => simp
  | cons a r => simp
section
variable {P : Program} {w : World} {K : PySem.W.Frag} {mg : Str → Option Value} {base : Heap}
def spTbInside (K : PySem.W.Frag) : Sp := fun vs H Q _ => ∃ (f : Addr) (z : Str) (fs : List File), vs = [.ref f, .str z] ∧ FilesAt K H f fs ∧ GoodP fs ∧ z.length ≤ 1000 ∧ ∀ p H', H p = none → Kp [] H H' → H' p = some (.lst ((insideF (sortF fs) z).map V.str)) → Q (.ref p) H'
theorem sc__law_inside : FnScope ["_law_table_here", "_law_place_here", "_law_path_here"] ["_law_table_here", "_law_place_here"] (defScope s__law_inside) := ⟨rfl, rfl, rfl, by decide +kernel, rfl, by decide +kernel, by decide +kernel⟩
theorem bn__law_inside : BindN "_law_inside" s__law_inside ["_law_table_here", "_law_place_here"] := fun _ _ _ _ _ _ us hl => match us, hl with | [_, _], _ => rfl
theorem b__law_inside (T : TX K mg) : Body P w K mg base "_law_inside" s__law_inside ["_law_table_here", "_law_place_here", "_law_path_here"] 1 (spTbInside K) := by
  intro cdv A outer s H vs Q E h X hr
  obtain ⟨f, z, fs, rfl, F, G, hz, q⟩ := h
  refine ⟨_, (pss_one (ps_ret (pe_lc (own := [("_law_path_here", 2)]) rfl sc__law_inside.nd (pi_listU (K := K) (pe_callB (cr_sortedDU rfl) rfl (T.free 30) (by decide +kernel) (pa_cons (pv 0) pa_nil))) (blkOk_by (N := ["_law_table_here", "_law_place_here", "_law_path_here"]) (sc := defScope s__law_inside) (by decide +kernel)) (fun _ _ _ _ _ => (pg_name (i := 2) sc__law_inside.nd rfl (Or.inl rfl))) (fun _ _ _ _ _ => (pts_one (PW.pt (pw_or (pt_cmpR (op_eqU (K := K) hr.units) (pv 1) pe_str (nomark _)) (pw_or1 (pt_cmpR (op_eqU (K := K) hr.units) (pe_slice (sl_U (K := K)) (pv 2) po_none (po_some (pe_op (op_addU (K := K)) (pe_callB (cr_len (K := K)) rfl (T.free 2) PySem.boot_len (pa_cons (pv 1) pa_nil)) pe_int))) (pe_op (op_addU (K := K)) (pv 1) pe_str) (nomark _))))))) (fun _ _ _ _ _ => (pv 2))))), ?_⟩
  have gl := G.len
  have e1 : (PySem.Str.ofString "/").length = 1 := by decide
  walk_at "st"
  refine c_sortedF F.r (by omega) fun sp H1 N1 => ?_
  walk_at "st"
  have hsp : SqL K H1 sp ((pathsOf (sortF fs)).map V.str) := SqL.of N1.at_
  have pn : (pathsOf (sortF fs)).length ≤ 20 := by unfold pathsOf; rw [List.length_map, sortF_len]; omega
  refine lcQ_fil (itn_l (ys := pathsOf (sortF fs)) (u := V.str)) (fun i => V.str ((pathsOf (sortF fs)).getD i Str.empty)) (fun i => isInsideS ((pathsOf (sortF fs)).getD i Str.empty) z) (by omega) (fun H' e => SqL.kp e hsp) (fun i x H' H'' R S hi e y k1 k2 => ?_) (fun D H2 hD e hacc => ?_)
  · obtain ⟨rfl, p, hp, rfl⟩ := y
    have ep : (pathsOf (sortF fs)).getD i Str.empty = p := getD_of hp
    have pl : p.length ≤ 1000 := by
      obtain ⟨r, hr, rfl⟩ := List.mem_map.mp (List.mem_of_getElem? hp)
      have := path_len (G.sort.path r hr)
      omega
    rw [ep] at k1 k2
    unfold isInsideS at k1 k2
    rw [← law_cut] at k1 k2
    walk_at "st"
    refine ⟨rfl, ?_⟩
    walk_at "st"
    refine c_ite (fun g => ?_) (fun g => ?_)
    · walk_at "st"
      exact k1 (by rw [decide_eq_true g]; rfl) _ Kp.refl
    · walk_at "st"
      rw [decide_eq_false g, Bool.false_or] at k1 k2
      refine c_slS (by rw [sizeLine_eq]; omega) ?_
      walk_at "st"
      refine c_addS (by rw [sizeLine_eq]; omega) ?_
      walk_at "st"
      refine c_ite (fun g2 => ?_) (fun g2 => ?_)
      · walk_at "st"
        exact k1 (decide_eq_true g2) _ Kp.refl
      · exact k2 (decide_eq_false g2) _ Kp.refl
  · rw [fil_strs _ fun y => isInsideS y z] at hacc
    exact q D H2 (free0 N1.kp hD) (N1.kp.trans e) hacc
theorem D__law_inside (T : TX K mg) : DefAt P w K mg base CX0 "_law_inside" 2 ["_law_table_here", "_law_place_here"] (spTbInside K) :=
  def_of T 38 63 sc__law_inside bn__law_inside (by walk_at "len") (b__law_inside T)
def spTbBarred (K : PySem.W.Frag) : Sp := fun vs H Q _ => ∃ (f : Addr) (z : Str) (fs : List File), vs = [.ref f, .str z] ∧ FilesAt K H f fs ∧ GoodP fs ∧ z.length ≤ 1000 ∧ okS z = true ∧ ∀ H', Kp [] H H' → Q (.bl (blockedF fs z)) H'
theorem sc__law_barred : FnScope ["_law_table_here", "_law_path_here", "_law_above", "_law_other"] ["_law_table_here", "_law_path_here"] (defScope s__law_barred) := ⟨rfl, rfl, rfl, by decide +kernel, rfl, by decide +kernel, by decide +kernel⟩
theorem bn__law_barred : BindN "_law_barred" s__law_barred ["_law_table_here", "_law_path_here"] := fun _ _ _ _ _ _ us hl => match us, hl with | [_, _], _ => rfl
theorem b__law_barred (T : TX K mg) : Body P w K mg base "_law_barred" s__law_barred ["_law_table_here", "_law_path_here", "_law_above", "_law_other"] 2 (spTbBarred K) := by
  intro cdv A outer s H vs Q E h X hr
  obtain ⟨f, z, fs, rfl, F, G, hz, oz, q⟩ := h
  have D__law_inside := D__law_inside (P := P) (w := w) (base := base) T
  refine ⟨_, (pss_cons (ps_lock (ps_setLc (i := 2) (own := [("_law_other", 3)]) rfl sc__law_barred.nd rfl rfl (sw_true rfl rfl rfl (by decide +kernel)) (pi_keys (pv 0)) (blkOk_by (N := ["_law_table_here", "_law_path_here", "_law_above", "_law_other"]) (sc := defScope s__law_barred) (by decide +kernel)) (fun _ _ _ _ _ => (pg_name (i := 3) sc__law_barred.nd rfl (Or.inl rfl))) (fun _ _ _ _ _ => (pts_one (pt_cmpR (op_eqU (K := K) hr.units) (pe_slice (sl_U (K := K)) (pv 1) po_none (po_some (pe_op (op_addU (K := K)) (pe_callB (cr_len (K := K)) rfl (T.free 2) PySem.boot_len (pa_cons (pv 3) pa_nil)) pe_int))) (pe_op (op_addU (K := K)) (pv 3) pe_str) (nomark _)))) (fun _ _ _ _ _ => (pv 3)))) (pss_one (ps_ret (pe_or (pe_cmpR (op_neU (K := K) hr.units) (pv 2) (pe_lst pa_nil) (nomark _)) (pe_one (pe_cmpR (op_neU (K := K) hr.units) (pe_callA D__law_inside hr pass0 (pa_cons (pv 0) (pa_cons (pv 1) pa_nil))) (pe_lst pa_nil) (nomark _))))))), ?_⟩
  have gl := G.len
  have e1 : (PySem.Str.ofString "/").length = 1 := by decide
  have hps : ∀ o ∈ pathsOf fs, o.length ≤ 1000 ∧ okS o = true ∧ o ≠ PySem.Str.ofString "" := fun o ho => by
    obtain ⟨r, hr, rfl⟩ := List.mem_map.mp ho
    have := path_len (G.path r hr)
    exact ⟨by omega, path_ok (G.path r hr), path_ne (G.path r hr)⟩
  obtain ⟨ls, hf, hl, hfs⟩ := id F.ex
  walk_at "st"
  refine c_lockF hf fun od => ?_
  walk_at "st"
  refine c_keysAtC upd_same ?_
  have hll : ls.length = (pathsOf fs).length := by rw [← hfs]; unfold pathsOf; rw [List.length_map, List.length_map]
  have gd : ∀ i l, ls[i]? = some l → (pathsOf fs).getD i Str.empty = l.2.1 ∧ l.2.1 ∈ pathsOf fs := fun i l h => by
    have : (pathsOf fs)[i]? = some l.2.1 := by rw [← hfs]; unfold pathsOf; rw [List.getElem?_map, List.getElem?_map, h]; rfl
    exact ⟨getD_of this, List.mem_of_getElem? this⟩
  have pn : (pathsOf fs).length ≤ 20 := by unfold pathsOf; rw [List.length_map]; omega
  refine lcQ_fil (itn_ks (ls := ls)) (fun i => V.str ((pathsOf fs).getD i Str.empty)) (fun i => isInsideS z ((pathsOf fs).getD i Str.empty)) (by omega) (fun H' e => e.at0 upd_same) (fun i x H' H'' R S hi e y k1 k2 => ?_) (fun D H1 hD e hacc => ?_)
  · obtain ⟨rfl, l, hl1, rfl⟩ := y
    obtain ⟨ge, gm⟩ := gd i l hl1
    obtain ⟨l1, l2, l3⟩ := hps _ gm
    rw [ge] at k1 k2
    unfold isInsideS at k1 k2
    rw [← law_cut, decide_eq_false l3, Bool.false_or] at k1 k2
    walk_at "st"
    refine ⟨rfl, ?_⟩
    walk_at "st"
    refine c_slS (by rw [sizeLine_eq]; omega) ?_
    walk_at "st"
    refine c_addS (by rw [sizeLine_eq]; omega) ?_
    walk_at "st"
    refine c_ite (fun g2 => ?_) (fun g2 => ?_)
    · walk_at "st"
      exact k1 (decide_eq_true g2) _ Kp.refl
    · exact k2 (decide_eq_false g2) _ Kp.refl
  have nd : D ≠ f := fun z => by rw [z, upd_same] at hD; cases hD
  have k0 := lock_kp hf e
  rw [hll, fil_strs _ fun y => isInsideS z y] at hacc
  have hacc2 : SqL K (upd H1 f (.dK (filesKv ls))) D ((aboveF fs z).map V.str) := SqL.of (upd_other (u := HO.dK (filesKv ls)) nd hacc)
  refine ⟨e.at0 upd_same, ?_⟩
  generalize upd H1 f (.dK (filesKv ls)) = H2 at *
  walk_at "st"
  walk_at "nw"
  intro p3 H3 N3
  have mem : ∀ y ∈ aboveF fs z, okS y = true := fun y hy => (hps y (List.mem_filter.mp hy).1).2.1
  refine c_neLS (zs := []) (SqL.kp N3.kp hacc2) (SqL.of N3.at_) mem (by simp) ?_
  have eb : blockedF fs z = (decide (0 < (insideF fs z).length) || !decide (aboveF fs z = [])) := by
    unfold blockedF
    congr 1
    rw [Bool.eq_iff_iff]
    cases aboveF fs z with
    | nil => simp
    | cons a r => simp
  walk_at "st"
  cases ga : decide (aboveF fs z = []) with
  | false =>
    rw [ga, Bool.not_false, Bool.or_true] at eb
    rw [eb] at q
    walk_at "dc"
    exact q _ (k0.trans N3.kp)
  | true =>
    rw [ga, Bool.not_true, Bool.or_false] at eb
    rw [eb] at q
    walk_at "dc"
    refine ⟨f, z, fs, rfl, (F.kp k0).kp N3.kp, G, hz, fun p4 H4 _ e4 hp4 => ?_⟩
    walk_at "st"
    walk_at "nw"
    intro p5 H5 N5
    have mem2 : ∀ y ∈ insideF (sortF fs) z, okS y = true := fun y hy => by
      have h1 := (List.mem_filter.mp hy).1
      exact (hps y ((paths_perm (sortF_perm fs)).subset h1)).2.1
    refine c_neLS (zs := []) (SqL.of (N5.keep hp4)) (SqL.of N5.at_) mem2 (by simp) ?_
    rw [inside_any, Bool.not_not]
    exact q _ (((k0.trans N3.kp).trans e4).trans N5.kp)
theorem D__law_barred (T : TX K mg) : DefAt P w K mg base CX0 "_law_barred" 3 ["_law_table_here", "_law_path_here"] (spTbBarred K) :=
  def_of T 39 64 sc__law_barred bn__law_barred (by walk_at "len") (b__law_barred T)
def spTbNames (K : PySem.W.Frag) : Sp := fun vs H Q _ => ∃ (f : Addr) (z : Str) (fs : List File), vs = [.ref f, .str z] ∧ FilesAt K H f fs ∧ GoodP fs ∧ z.length ≤ 1000 ∧ ∀ p H', Kp [] H H' → SqT K H' p ((namesF (sortF fs) z).map V.str) → Q (.ref p) H'
theorem sc__law_names : FnScope ["_law_table_here", "_law_place_here", "_law_skip", "_law_found_here", "_law_path_here", "_law_parts", "_law_name"] ["_law_table_here", "_law_place_here"] (defScope s__law_names) := ⟨rfl, rfl, rfl, by decide +kernel, rfl, by decide +kernel, by decide +kernel⟩
theorem bn__law_names : BindN "_law_names" s__law_names ["_law_table_here", "_law_place_here"] := fun _ _ _ _ _ _ us hl => match us, hl with | [_, _], _ => rfl
theorem b__law_names (T : TX K mg) : Body P w K mg base "_law_names" s__law_names ["_law_table_here", "_law_place_here", "_law_skip", "_law_found_here", "_law_path_here", "_law_parts", "_law_name"] 2 (spTbNames K) := by
  intro cdv A outer s H vs Q E h X hr
  obtain ⟨f, z, fs, rfl, F, G, hz, q⟩ := h
  have D__law_inside := D__law_inside (P := P) (w := w) (base := base) T
  refine ⟨_, (pss_cons (ps_set (i := 2) sc__law_names.nd rfl (Or.inl rfl) (pe_op (op_addU (K := K)) (pe_callB (cr_len (K := K)) rfl (T.free 2) PySem.boot_len (pa_cons (pv 1) pa_nil)) (pe_callTy cr_int rfl (T.free 52) (by decide +kernel) (pa_cons (pe_cmpR (op_neU (K := K) hr.units) (pv 1) pe_str (nomark _)) pa_nil)))) (pss_cons (ps_set (i := 3) sc__law_names.nd rfl (Or.inl rfl) (pe_lst pa_nil)) (pss_cons (ps_for PassesOwn.never rfl (pi_listU (K := K) (pe_callA D__law_inside hr pass0 (pa_cons (pv 0) (pa_cons (pv 1) pa_nil)))) (pg_name (i := 4) sc__law_names.nd rfl (Or.inl rfl)) (pss_cons (ps_set (i := 5) sc__law_names.nd rfl (Or.inl rfl) (pe_splitU (pe_slice (sl_U (K := K)) (pv 4) (po_some (pv 2)) po_none) pe_str)) (pss_cons (ps_set (i := 6) sc__law_names.nd rfl (Or.inl rfl) (pe_op (op_addU (K := K)) (pe_ix (ix_U (K := K)) (pv 5) pe_int (fun _ _ => rfl)) (pe_op (op_mulU (K := K)) pe_str (pe_callTy cr_int rfl (T.free 52) (by decide +kernel) (pa_cons (pe_cmpR op_gtU (pe_callB (cr_len (K := K)) rfl (T.free 2) PySem.boot_len (pa_cons (pv 5) pa_nil)) pe_int (nomark _)) pa_nil))))) (pss_one (ps_if (pt_cmpR (op_notInU (K := K)) (pv 6) (pv 3) rfl) (pss_one (ps_expr (pe_appendU (K := K) (pv 3) (pv 6)))) pss_nil))))) (pss_one (ps_ret (pe_callTy (cr_tuple (K := K)) rfl (T.free 28) (by decide +kernel) (pa_cons (pe_callB cr_sortedS rfl (T.free 30) (by decide +kernel) (pa_cons (pv 3) pa_nil)) pa_nil))))))), ?_⟩
  have gl := G.len
  have e1 : (PySem.Str.ofString "/").length = 1 := by decide
  have pn : (insideF (sortF fs) z).length ≤ 20 := by
    have := List.length_filter_le (fun y => isInsideS y z) (pathsOf (sortF fs))
    unfold insideF
    unfold pathsOf at this ⊢
    rw [List.length_map, sortF_len] at this
    omega
  have hps : ∀ o ∈ insideF (sortF fs) z, o.length ≤ 1000 := fun o ho => by
    obtain ⟨r, hr, rfl⟩ := List.mem_map.mp (List.mem_filter.mp ho).1
    have := path_len (G.sort.path r hr)
    omega
  unfold namesF at q
  walk_at "st"
  rw [← decide_not]
  refine c_intB ?_
  have est : (z.length : Int) + (if decide (¬z = PySem.Str.ofString "") = true then 1 else 0) = startN z := by
    unfold startN
    by_cases g : z = PySem.Str.ofString ""
    · rw [decide_eq_true g, decide_eq_false (fun h => h g)]
      subst g
      rfl
    · rw [decide_eq_false g, decide_eq_true g]
      rfl
  walk_at "st"
  rw [est]
  walk_at "nw"
  intro l H1 N1
  walk_at "st"
  refine ⟨f, z, fs, rfl, F.kp N1.kp, G, hz, fun il H2 fil e2 hil => ?_⟩
  generalize insideF (sortF fs) z = ps at *
  have hl2 := e2.at0 N1.at_
  have nl : il ≠ l := fun e => by rw [e, N1.at_] at fil; cases fil
  have hsp : SqL K H2 il (ps.map V.str) := SqL.of hil
  refine ⟨il, rfl, ⟨_, hsp⟩, ?_⟩
  refine forQ (itn_l (ys := ps) (u := V.str)) (fun i σ H' => ∃ v4 v5 v6, σ = [some (.ref f), some (.str z), some (.int (startN z)), some (.ref l), v4, v5, v6] ∧ Kp [l] H2 H' ∧
    H' l = some (.lst ((ded ((ps.take i).map (firstN z))).map V.str))) ⟨_, _, _, rfl, Kp.refl, hl2⟩ (by rintro i σ H' ⟨_, _, _, _, e, _⟩; exact SqL.kp1 e nl hsp) ?_ ?_
  · rintro i x σ _ H' hi ⟨v4, v5, v6, rfl, e, hacc⟩ ⟨rfl, o, ho, rfl⟩
    have hm := List.mem_of_getElem? ho
    have hlen := hps _ hm
    have et : (ps.take (i + 1)).map (firstN z) = (ps.take i).map (firstN z) ++ [firstN z o] := by rw [take_succ' ho, List.map_append]; rfl
    have dl : (ded ((ps.take i).map (firstN z))).length ≤ 20 := by
      have h1 := ded_le ((ps.take i).map (firstN z))
      rw [List.length_map, List.length_take] at h1
      omega
    have cl := cutS_len o (some (startN z)) none
    walk_at "st"
    refine c_slS (by rw [sizeLine_eq]; omega) ?_
    walk_at "st"
    refine c_split (by decide) (by rw [sizeLine_eq]; omega) fun p2 H3 N3 => ?_
    walk_at "st"
    obtain ⟨a0, t0, es, al, ef⟩ := split_first (cutS o (some (startN z)) none)
    have N3' := N3
    rw [es] at N3'
    refine c_ixL (v := .str a0) (SqL.of N3'.at_) (atI_nat (j := 0) rfl) ?_
    walk_at "st"
    rw [List.length_map]
    refine c_intB ?_
    walk_at "st"
    refine c_mulS (by split <;> decide) (by split <;> decide) (by rw [sizeLine_eq, e1]; split <;> decide) ?_
    walk_at "st"
    have er : a0 ++ rptS (PySem.Str.ofString "/") (if decide ((1 : Int) < ((a0 :: t0).length : Int)) = true then 1 else 0) = firstN z o := by
      unfold firstN
      rw [← ef]
      split
      · have : rptS (PySem.Str.ofString "/") 1 = PySem.Str.ofString "/" := by decide +kernel
        rw [this]
      · have : rptS (PySem.Str.ofString "/") 0 = PySem.Str.ofString "" := by decide +kernel
        rw [this]
        have e0 : (PySem.Str.ofString "").cps = #[] := by decide +kernel
        exact str_ext (by rw [cps_app, e0]; simp)
    refine c_addS (by
      have : (rptS (PySem.Str.ofString "/") (if decide ((1 : Int) < ((a0 :: t0).length : Int)) = true then 1 else 0)).length ≤ 1 := by split <;> decide +kernel
      rw [sizeLine_eq]; omega) ?_
    rw [er]
    walk_at "st"
    have k3 : Kp [l] H2 H3 := e.trans N3.kp
    have hacc3 := N3.keep hacc
    refine c_notInSs (.inl (SqL.of hacc3)) ?_
    walk_at "st"
    refine c_iteN (fun g1 => ?_) (fun g1 => ?_)
    · walk_at "st"
      refine ⟨_, _, _, rfl, k3.trans (Kp.mut (by simp)), ?_⟩
      rw [upd_same, et, ded_snoc, if_neg g1, List.map_append]
      rfl
    · walk_at "st"
      refine ⟨_, _, _, rfl, k3, ?_⟩
      rw [et, ded_snoc, if_pos g1]
      exact hacc3
  · rintro σ H' ⟨v4, v5, v6, rfl, e, hacc⟩
    rw [List.take_length] at hacc
    have k0 : Kp [] H H' := Kp.drop_fresh ((N1.kp (ms := [l])).trans (e2.mono.trans e)) N1.fr
    have dl : (ded (ps.map (firstN z))).length ≤ 20 := by
      have h1 := ded_le (ps.map (firstN z))
      rw [List.length_map] at h1
      omega
    walk_at "st"
    refine c_sortedS (SqL.of hacc) (by omega) fun p4 H4 N4 => ?_
    walk_at "st"
    refine c_tupleL (SqL.of N4.at_) fun p5 H5 N5 => ?_
    exact q p5 H5 ((k0.trans N4.kp).trans N5.kp) (SqT.of N5.at_)
theorem D__law_names (T : TX K mg) : DefAt P w K mg base CX0 "_law_names" 3 ["_law_table_here", "_law_place_here"] (spTbNames K) :=
  def_of T 40 65 sc__law_names bn__law_names (by walk_at "len") (b__law_names T)
theorem sc__law_found : FnScope ["_law_table_here", "_law_place_here", "_law_word", "_law_rows", "_law_path_here", "_law_k"] ["_law_table_here", "_law_place_here", "_law_word"] (defScope s__law_found) := ⟨rfl, rfl, rfl, by decide +kernel, rfl, by decide +kernel, by decide +kernel⟩
theorem bn__law_found : BindN "_law_found" s__law_found ["_law_table_here", "_law_place_here", "_law_word"] := fun _ _ _ _ _ _ us hl => match us, hl with | [_, _, _], _ => rfl
theorem b__law_found (T : TX K mg) : Body P w K mg base "_law_found" s__law_found ["_law_table_here", "_law_place_here", "_law_word", "_law_rows", "_law_path_here", "_law_k"] 1 (spLFound K) := by
  intro cdv A outer s H vs Q E h X hr
  obtain ⟨f, z, wd, fs, rfl, F, G, hz, q⟩ := h
  refine ⟨_, (pss_cons (ps_set (i := 3) sc__law_found.nd rfl (Or.inl rfl) (pe_lst pa_nil)) (pss_cons (ps_for PassesOwn.never rfl (pi_listU (K := K) (pe_callB (cr_sortedDU rfl) rfl (T.free 30) (by decide +kernel) (pa_cons (pv 0) pa_nil))) (pg_name (i := 4) sc__law_found.nd rfl (Or.inl rfl)) (pss_one (ps_if (PW.pt (pw_or (pt_cmpR (op_eqU (K := K) hr.units) (pv 1) pe_str (nomark _)) (pw_or (pt_cmpR (op_eqU (K := K) hr.units) (pv 4) (pv 1) (nomark _)) (pw_or1 (pt_cmpR (op_eqU (K := K) hr.units) (pe_slice (sl_U (K := K)) (pv 4) po_none (po_some (pe_op (op_addU (K := K)) (pe_callB (cr_len (K := K)) rfl (T.free 2) PySem.boot_len (pa_cons (pv 1) pa_nil)) pe_int))) (pe_op (op_addU (K := K)) (pv 1) pe_str) (nomark _)))))) (pss_one (ps_for PassesOwn.never rfl (pi_range1 rfl (T.free 27) (pa_cons (pe_callB (cr_len (K := K)) rfl (T.free 2) PySem.boot_len (pa_cons (pe_dget (hu_of hr) (pv 0) (pv 4) (fun _ _ => rfl)) pa_nil)) pa_nil)) (pg_name (i := 5) sc__law_found.nd rfl (Or.inl rfl)) (pss_one (ps_if (pt_cmpR (op_inU (K := K)) (pv 2) (pe_ix (ix_U (K := K)) (pe_dget (hu_of hr) (pv 0) (pv 4) (fun _ _ => rfl)) (pv 5) (fun _ _ => rfl)) rfl) (pss_one (ps_expr (pe_appendU (K := K) (pv 3) (pe_tup (pa_cons (pv 4) (pa_cons (pv 5) pa_nil)))))) pss_nil)))) pss_nil))) (pss_one (ps_ret (pe_callTy (cr_tuple (K := K)) rfl (T.free 28) (by decide +kernel) (pa_cons (pv 3) pa_nil)))))), ?_⟩
  have gl := G.len
  have e1 : (PySem.Str.ofString "/").length = 1 := by decide
  have ef : foundF (sortF fs) z wd = ((pathsOf (sortF fs)).filter fun p => decide (p = z) || isInsideS p z).flatMap fun p => rowsD p ((at? fs p).getD []) wd := by
    unfold foundF
    rw [foundPs_eq G.sort (sortF_asc fs)]
    congr 1
    funext p
    rw [at_sort G]
  rw [ef] at q
  walk_at "st"
  walk_at "nw"
  intro l H1 N1
  walk_at "st"
  have F1 := F.kp N1.kp
  refine c_sortedF F1.r (by omega) fun sp H2 N2 => ?_
  walk_at "st"
  have hps : ∀ y ∈ pathsOf (sortF fs), isPathS y = true ∧ ∃ ls, at? fs y = some ls := fun y hy => by
    have hy2 : y ∈ pathsOf fs := (paths_perm (sortF_perm fs)).subset hy
    obtain ⟨r, hr, rfl⟩ := List.mem_map.mp hy
    exact ⟨G.sort.path r hr, Option.isSome_iff_exists.mp (at_isSome.mpr hy2)⟩
  have hsp : SqL K H2 sp ((pathsOf (sortF fs)).map V.str) := SqL.of N2.at_
  have nl : sp ≠ l := (ne_of_none N1.at_ N2.fr).symm
  have pn : (pathsOf (sortF fs)).length ≤ 20 := by unfold pathsOf; rw [List.length_map, sortF_len]; omega
  refine forQ (itn_l (ys := pathsOf (sortF fs)) (u := V.str)) (fun i σ H' => ∃ v4 v5 ws, σ = [some (.ref f), some (.str z), some (.str wd), some (.ref l), v4, v5] ∧ Kp [] H H' ∧ SqL K H' sp ((pathsOf (sortF fs)).map V.str) ∧
    H' l = some (.lst ws) ∧ DtAll K H' ws ((((pathsOf (sortF fs)).take i).filter fun p => decide (p = z) || isInsideS p z).flatMap fun p => rowsD p ((at? fs p).getD []) wd) ∧ ws.length ≤ 12 * i) ⟨_, _, [], rfl, N1.kp.trans N2.kp, hsp, N2.keep N1.at_, .nil, by simp⟩ (by rintro i σ H' ⟨_, _, _, _, _, h, _⟩; exact h) ?_ ?_
  · rintro i x σ _ H3 hi ⟨v4, v5, ws, rfl, e3, hsp3, hl3, hws, hwl⟩ ⟨rfl, p, hp, rfl⟩
    obtain ⟨hpp, lns, hlns⟩ := hps p (List.mem_of_getElem? hp)
    have plen := path_len hpp
    have lls : lns.length ≤ 12 := (lines_len (G.lines _ (at_mem hlns))).1
    have et : ((pathsOf (sortF fs)).take (i + 1)).filter (fun p => decide (p = z) || isInsideS p z) = ((pathsOf (sortF fs)).take i).filter (fun p => decide (p = z) || isInsideS p z) ++ if (decide (p = z) || isInsideS p z) = true then [p] else [] := by
      rw [take_succ' hp, List.filter_append]
      congr 1
      by_cases h : (decide (p = z) || isInsideS p z) = true
      · rw [if_pos h]; exact List.filter_eq_self.mpr (fun a ha => by rw [List.mem_singleton.mp ha]; exact h)
      · rw [if_neg h]; exact List.filter_eq_nil_iff.mpr (fun a ha => by rw [List.mem_singleton.mp ha]; exact h)
    have skip : (decide (p = z) || isInsideS p z) = false → ∃ u4 u5 ws, ([some (.ref f), some (.str z), some (.str wd), some (.ref l), some (.str p), v5] : St) = [some (.ref f), some (.str z), some (.str wd), some (.ref l), u4, u5] ∧ Kp [] H H3 ∧ SqL K H3 sp ((pathsOf (sortF fs)).map V.str) ∧
        H3 l = some (.lst ws) ∧ DtAll K H3 ws ((((pathsOf (sortF fs)).take (i + 1)).filter fun p => decide (p = z) || isInsideS p z).flatMap fun p => rowsD p ((at? fs p).getD []) wd) ∧ ws.length ≤ 12 * (i + 1) := fun h => by
      refine ⟨_, _, ws, rfl, e3, hsp3, hl3, ?_, by omega⟩
      rw [et, h, if_neg Bool.false_ne_true, List.append_nil]
      exact hws
    have ein : isInsideS p z = (decide (z = PySem.Str.ofString "") || decide (cutS p none (some ((z.length : Int) + 1)) = z ++ PySem.Str.ofString "/")) := by rw [law_cut]; rfl
    walk_at "st"
    refine c_ite (fun g0 => ?_) (fun g0 => ?_)
    · have hP : (decide (p = z) || isInsideS p z) = true := by rw [ein, decide_eq_true g0, Bool.true_or, Bool.or_true]
      walk_at "st"
      refine c_dgetR (F.kp e3).r hlns fun la hla => ?_
      walk_at "st"
      rw [List.length_map]
      refine c_r1F (by omega) ?_
      refine forR (fun j σ H' => ∃ v5 ws2, σ = [some (.ref f), some (.str z), some (.str wd), some (.ref l), some (.str p), v5] ∧ Kp [] H H' ∧ SqL K H' sp ((pathsOf (sortF fs)).map V.str) ∧ H' l = some (.lst (ws ++ ws2)) ∧ DtAll K H' ws ((((pathsOf (sortF fs)).take i).filter fun p => decide (p = z) || isInsideS p z).flatMap fun p => rowsD p ((at? fs p).getD []) wd) ∧
        DtAll K H' ws2 (((List.range j).filter fun i => occS (lns.getD i Str.empty) wd).map fun i => .tuple [.str p, .int (i : Nat)]) ∧ ws2.length ≤ j) ⟨_, [], rfl, e3, hsp3, by rw [List.append_nil]; exact hl3, hws, .nil, by simp⟩ ?_ ?_
      · rintro j σ H4 hj ⟨v5, ws2, rfl, e4, hsp4, hl4, hw1, hw2, hwl2⟩
        have hj : j < lns.length := by have : ((lns.length : Int)).toNat = lns.length := Int.toNat_natCast _; omega
        walk_at "st"
        rw [Int.zero_add]
        refine c_dgetR (F.kp e4).r hlns fun lb hlb => ?_
        walk_at "st"
        refine c_ixT hlb (atI_strs (by omega) (by omega)) ?_
        rw [Int.toNat_natCast]
        walk_at "st"
        refine c_inT ?_
        walk_at "st"
        refine c_iteB (fun g2 => ?_) (fun g2 => ?_)
        · walk_at "st"
          walk_at "nw"
          intro T5 H5 N5
          have hl5 := N5.keep hl4
          refine ⟨l, _, _, rfl, rfl, hl5, by rw [sizeLine_eq, List.length_append]; omega, ?_⟩
          walk_at "st"
          have kt : Kt H5 (upd H5 l (.lst (ws ++ ws2 ++ [V.ref T5]))) := Kt.upd1 (NoT.lst hl5)
          refine ⟨_, ws2 ++ [V.ref T5], rfl, (e4.trans N5.kp).fresh_mut N1.fr, SqL.other nl (SqL.kp N5.kp hsp4), by rw [upd_same, List.append_assoc], DtAll.kt (N5.kp.kt.trans kt) hw1, ?_, by rw [List.length_append, List.length_singleton]; omega⟩
          rw [range_filter_succ, if_pos g2, List.map_append]
          exact dta_snoc (DtAll.kt (N5.kp.kt.trans kt) hw2) (.tup (SqT.kt kt (SqT.of N5.at_)) (.cons (.str p) (.cons (.int _) .nil)))
        · walk_at "st"
          refine ⟨_, ws2, rfl, e4, hsp4, hl4, hw1, ?_, by omega⟩
          rw [range_filter_succ, g2, if_neg Bool.false_ne_true, List.append_nil]
          exact hw2
      · rintro σ H4 ⟨v5, ws2, rfl, e4, hsp4, hl4, hw1, hw2, hwl2⟩
        rw [Int.toNat_natCast] at hw2 hwl2
        walk_at "st"
        refine ⟨_, _, ws ++ ws2, rfl, e4, hsp4, hl4, ?_, by rw [List.length_append]; omega⟩
        rw [et, if_pos hP, List.flatMap_append]
        refine dta_app hw1 ?_
        show DtAll _ _ _ (rowsD p ((at? fs p).getD []) wd ++ [])
        rw [hlns, List.append_nil]
        exact hw2
    walk_at "st"
    refine c_ite (fun g => ?_) (fun g => ?_)
    · have hP : (decide (p = z) || isInsideS p z) = true := by rw [decide_eq_true g]; rfl
      walk_at "st"
      refine c_dgetR (F.kp e3).r hlns fun la hla => ?_
      walk_at "st"
      rw [List.length_map]
      refine c_r1F (by omega) ?_
      refine forR (fun j σ H' => ∃ v5 ws2, σ = [some (.ref f), some (.str z), some (.str wd), some (.ref l), some (.str p), v5] ∧ Kp [] H H' ∧ SqL K H' sp ((pathsOf (sortF fs)).map V.str) ∧ H' l = some (.lst (ws ++ ws2)) ∧ DtAll K H' ws ((((pathsOf (sortF fs)).take i).filter fun p => decide (p = z) || isInsideS p z).flatMap fun p => rowsD p ((at? fs p).getD []) wd) ∧
        DtAll K H' ws2 (((List.range j).filter fun i => occS (lns.getD i Str.empty) wd).map fun i => .tuple [.str p, .int (i : Nat)]) ∧ ws2.length ≤ j) ⟨_, [], rfl, e3, hsp3, by rw [List.append_nil]; exact hl3, hws, .nil, by simp⟩ ?_ ?_
      · rintro j σ H4 hj ⟨v5, ws2, rfl, e4, hsp4, hl4, hw1, hw2, hwl2⟩
        have hj : j < lns.length := by have : ((lns.length : Int)).toNat = lns.length := Int.toNat_natCast _; omega
        walk_at "st"
        rw [Int.zero_add]
        refine c_dgetR (F.kp e4).r hlns fun lb hlb => ?_
        walk_at "st"
        refine c_ixT hlb (atI_strs (by omega) (by omega)) ?_
        rw [Int.toNat_natCast]
        walk_at "st"
        refine c_inT ?_
        walk_at "st"
        refine c_iteB (fun g2 => ?_) (fun g2 => ?_)
        · walk_at "st"
          walk_at "nw"
          intro T5 H5 N5
          have hl5 := N5.keep hl4
          refine ⟨l, _, _, rfl, rfl, hl5, by rw [sizeLine_eq, List.length_append]; omega, ?_⟩
          walk_at "st"
          have kt : Kt H5 (upd H5 l (.lst (ws ++ ws2 ++ [V.ref T5]))) := Kt.upd1 (NoT.lst hl5)
          refine ⟨_, ws2 ++ [V.ref T5], rfl, (e4.trans N5.kp).fresh_mut N1.fr, SqL.other nl (SqL.kp N5.kp hsp4), by rw [upd_same, List.append_assoc], DtAll.kt (N5.kp.kt.trans kt) hw1, ?_, by rw [List.length_append, List.length_singleton]; omega⟩
          rw [range_filter_succ, if_pos g2, List.map_append]
          exact dta_snoc (DtAll.kt (N5.kp.kt.trans kt) hw2) (.tup (SqT.kt kt (SqT.of N5.at_)) (.cons (.str p) (.cons (.int _) .nil)))
        · walk_at "st"
          refine ⟨_, ws2, rfl, e4, hsp4, hl4, hw1, ?_, by omega⟩
          rw [range_filter_succ, g2, if_neg Bool.false_ne_true, List.append_nil]
          exact hw2
      · rintro σ H4 ⟨v5, ws2, rfl, e4, hsp4, hl4, hw1, hw2, hwl2⟩
        rw [Int.toNat_natCast] at hw2 hwl2
        walk_at "st"
        refine ⟨_, _, ws ++ ws2, rfl, e4, hsp4, hl4, ?_, by rw [List.length_append]; omega⟩
        rw [et, if_pos hP, List.flatMap_append]
        refine dta_app hw1 ?_
        show DtAll _ _ _ (rowsD p ((at? fs p).getD []) wd ++ [])
        rw [hlns, List.append_nil]
        exact hw2
    walk_at "st"
    refine c_slS (by rw [sizeLine_eq]; omega) ?_
    walk_at "st"
    refine c_addS (by rw [sizeLine_eq]; omega) ?_
    walk_at "st"
    refine c_ite (fun g1 => ?_) (fun g1 => ?_)
    · have hP : (decide (p = z) || isInsideS p z) = true := by rw [ein, decide_eq_true g1, Bool.or_true, Bool.or_true]
      walk_at "st"
      refine c_dgetR (F.kp e3).r hlns fun la hla => ?_
      walk_at "st"
      rw [List.length_map]
      refine c_r1F (by omega) ?_
      refine forR (fun j σ H' => ∃ v5 ws2, σ = [some (.ref f), some (.str z), some (.str wd), some (.ref l), some (.str p), v5] ∧ Kp [] H H' ∧ SqL K H' sp ((pathsOf (sortF fs)).map V.str) ∧ H' l = some (.lst (ws ++ ws2)) ∧ DtAll K H' ws ((((pathsOf (sortF fs)).take i).filter fun p => decide (p = z) || isInsideS p z).flatMap fun p => rowsD p ((at? fs p).getD []) wd) ∧
        DtAll K H' ws2 (((List.range j).filter fun i => occS (lns.getD i Str.empty) wd).map fun i => .tuple [.str p, .int (i : Nat)]) ∧ ws2.length ≤ j) ⟨_, [], rfl, e3, hsp3, by rw [List.append_nil]; exact hl3, hws, .nil, by simp⟩ ?_ ?_
      · rintro j σ H4 hj ⟨v5, ws2, rfl, e4, hsp4, hl4, hw1, hw2, hwl2⟩
        have hj : j < lns.length := by have : ((lns.length : Int)).toNat = lns.length := Int.toNat_natCast _; omega
        walk_at "st"
        rw [Int.zero_add]
        refine c_dgetR (F.kp e4).r hlns fun lb hlb => ?_
        walk_at "st"
        refine c_ixT hlb (atI_strs (by omega) (by omega)) ?_
        rw [Int.toNat_natCast]
        walk_at "st"
        refine c_inT ?_
        walk_at "st"
        refine c_iteB (fun g2 => ?_) (fun g2 => ?_)
        · walk_at "st"
          walk_at "nw"
          intro T5 H5 N5
          have hl5 := N5.keep hl4
          refine ⟨l, _, _, rfl, rfl, hl5, by rw [sizeLine_eq, List.length_append]; omega, ?_⟩
          walk_at "st"
          have kt : Kt H5 (upd H5 l (.lst (ws ++ ws2 ++ [V.ref T5]))) := Kt.upd1 (NoT.lst hl5)
          refine ⟨_, ws2 ++ [V.ref T5], rfl, (e4.trans N5.kp).fresh_mut N1.fr, SqL.other nl (SqL.kp N5.kp hsp4), by rw [upd_same, List.append_assoc], DtAll.kt (N5.kp.kt.trans kt) hw1, ?_, by rw [List.length_append, List.length_singleton]; omega⟩
          rw [range_filter_succ, if_pos g2, List.map_append]
          exact dta_snoc (DtAll.kt (N5.kp.kt.trans kt) hw2) (.tup (SqT.kt kt (SqT.of N5.at_)) (.cons (.str p) (.cons (.int _) .nil)))
        · walk_at "st"
          refine ⟨_, ws2, rfl, e4, hsp4, hl4, hw1, ?_, by omega⟩
          rw [range_filter_succ, g2, if_neg Bool.false_ne_true, List.append_nil]
          exact hw2
      · rintro σ H4 ⟨v5, ws2, rfl, e4, hsp4, hl4, hw1, hw2, hwl2⟩
        rw [Int.toNat_natCast] at hw2 hwl2
        walk_at "st"
        refine ⟨_, _, ws ++ ws2, rfl, e4, hsp4, hl4, ?_, by rw [List.length_append]; omega⟩
        rw [et, if_pos hP, List.flatMap_append]
        refine dta_app hw1 ?_
        show DtAll _ _ _ (rowsD p ((at? fs p).getD []) wd ++ [])
        rw [hlns, List.append_nil]
        exact hw2
    · walk_at "st"
      exact skip (by rw [ein, decide_eq_false g0, decide_eq_false g1, decide_eq_false g]; rfl)
  · rintro σ H3 ⟨v4, v5, ws, rfl, e3, hsp3, hl3, hws, hwl⟩
    rw [List.take_length] at hws
    walk_at "st"
    refine c_tupleL (SqL.of hl3) fun p5 H5 N5 => ?_
    exact q p5 H5 (e3.trans N5.kp) (.tup (SqT.of N5.at_) (DtAll.kp hws N5.kp))
theorem D__law_found (T : TX K mg) : DefAt P w K mg base CX0 "_law_found" 2 ["_law_table_here", "_law_place_here", "_law_word"] (spLFound K) :=
  def_of T 41 66 sc__law_found bn__law_found (by walk_at "len") (b__law_found T)
theorem sc__law_told : FnScope ["_law_table_here", "_law_action_here", "_law_word", "_law_place_here", "_law_folder"] ["_law_table_here", "_law_action_here"] (defScope s__law_told) := ⟨rfl, rfl, rfl, by decide +kernel, rfl, by decide +kernel, by decide +kernel⟩
theorem bn__law_told : BindN "_law_told" s__law_told ["_law_table_here", "_law_action_here"] := fun _ _ _ _ _ _ us hl => match us, hl with | [_, _], _ => rfl
theorem b__law_told (T : TX K mg) : Body P w K mg base "_law_told" s__law_told ["_law_table_here", "_law_action_here", "_law_word", "_law_place_here", "_law_folder"] 3 (spLAsked K) := by
  intro cdv A outer s H vs Q E h X hr
  obtain ⟨f, a, x, fs, rfl, F, G, ha, hq, hs, q⟩ := h
  have D__law_found := D__law_found (P := P) (w := w) (base := base) T; have D__law_inside := D__law_inside (P := P) (w := w) (base := base) T; have D__law_names := D__law_names (P := P) (w := w) (base := base) T
  refine ⟨_, (pss_cons (ps_set (i := 2) sc__law_told.nd rfl (Or.inl rfl) (pe_ix (ix_U (K := K)) (pv 1) pe_int (fun _ _ => rfl))) (pss_cons (ps_set (i := 3) sc__law_told.nd rfl (Or.inl rfl) (pe_ix (ix_U (K := K)) (pv 1) pe_int (fun _ _ => rfl))) (pss_cons (ps_if (pt_cmpR (op_eqU (K := K) hr.units) (pv 2) pe_str (nomark _)) (pss_cons (ps_if (pt_cmp (pc_din (hu_of hr) (pv 3) (pv 0)) rfl) (pss_one (ps_ret (pe_tup (pa_cons pe_str (pa_cons (pe_dget (hu_of hr) (pv 0) (pv 3) (fun _ _ => rfl)) pa_nil))))) pss_nil) (pss_one (ps_ret (pe_tup (pa_cons pe_str pa_nil))))) pss_nil) (Evl.pss_cut (ps_set (i := 4) sc__law_told.nd rfl (Or.inl rfl) (pe_or (pe_cmpR (op_eqU (K := K) hr.units) (pv 3) pe_str (nomark _)) (pe_one (pe_cmpR (op_neU (K := K) hr.units) (pe_callA D__law_inside hr pass0 (pa_cons (pv 0) (pa_cons (pv 3) pa_nil))) (pe_lst pa_nil) (nomark _))))) (pss_cons (ps_if (PW.pt (pw_and (pt_cmpR (op_eqU (K := K) hr.units) (pv 2) pe_str (nomark _)) (pw_and1 (PW.pt (pw_or (pt_cmp (pc_din (hu_of hr) (pv 3) (pv 0)) rfl) (pw_or1 (pt_tru (K := K) (pv 4)))))))) (pss_one (ps_ret (pe_tup (pa_cons pe_str (pa_cons (pe_callA D__law_found hr pass0 (pa_cons (pv 0) (pa_cons (pv 3) (pa_cons (pe_ix (ix_U (K := K)) (pv 1) pe_int (fun _ _ => rfl)) pa_nil)))) pa_nil))))) pss_nil) (pss_cons (ps_if (PW.pt (pw_and (pt_cmpR (op_eqU (K := K) hr.units) (pv 2) pe_str (nomark _)) (pw_and1 (pt_cmp (pc_din (hu_of hr) (pv 3) (pv 0)) rfl)))) (pss_one (ps_ret (pe_tup (pa_cons pe_str pa_nil)))) pss_nil) (pss_cons (ps_if (pt_not (pt_tru (K := K) (pv 4))) (pss_one (ps_ret (pe_tup (pa_cons pe_str pa_nil)))) pss_nil) (pss_cons (ps_if (pt_cmpR (op_eqU (K := K) hr.units) (pv 2) pe_str (nomark _)) (pss_one (ps_ret (pe_tup (pa_cons pe_str pa_nil)))) pss_nil) (pss_cons (ps_if (pt_cmpR (op_eqU (K := K) hr.units) (pv 2) pe_str (nomark _)) (pss_one (ps_ret (pe_tup (pa_cons pe_str (pa_cons (pe_callB (cr_len (K := K)) rfl (T.free 2) PySem.boot_len (pa_cons (pe_callA D__law_inside hr pass0 (pa_cons (pv 0) (pa_cons (pv 3) pa_nil))) pa_nil)) pa_nil))))) pss_nil) (pss_one (ps_ret (pe_tup (pa_cons pe_str (pa_cons (pe_callA D__law_names hr pass0 (pa_cons (pv 0) (pa_cons (pv 3) pa_nil))) pa_nil)))))))))))))), ?_⟩
  have gl := G.len
  have hps : ∀ o ∈ pathsOf fs, okS o = true := fun o ho => by
    obtain ⟨r, hr, rfl⟩ := List.mem_map.mp ho
    exact path_ok (G.path r hr)
  have word1 : ∀ {H1 : Hp} {p : Addr} {H2 : Hp} {z : Str}, Kp [] H H1 → New H1 p (.tup [.str z]) H2 → askF (sortF fs) x = wordD z → Q (.ref p) H2 := fun e N h => q _ _ (e.trans N.kp) (by rw [h]; exact .tup (SqT.of N.at_) (.cons (.str _) .nil))
  have mem2 : ∀ z, ∀ y ∈ insideF (sortF fs) z, okS y = true := fun z y hy => hps y ((paths_perm (sortF_perm fs)).subset (List.mem_filter.mp hy).1)
  cases x with
  | read p =>
    walk_at "dc"
    refine c_dinF F.r ?_
    walk_at "st"
    refine c_iteB (fun g => ?_) (fun g => ?_)
    · obtain ⟨ls, g⟩ := Option.isSome_iff_exists.mp g
      walk_at "st"
      refine c_dgetR F.r g fun la hla => ?_
      walk_at "st"
      walk_at "nw"
      intro p1 H1 N1
      refine q _ H1 N1.kp ?_
      simp only [askF, at_sort G, g]
      exact .tup (SqT.of N1.at_) (.cons (.str _) (.cons (dt_strs (SqT.kp N1.kp hla)) .nil))
    · walk_at "st"
      walk_at "nw"
      intro p1 H1 N1
      have g : at? fs p = none := by simpa using g
      exact word1 Kp.refl N1 (by simp only [askF, at_sort G, g])
  | find z wd =>
    have hz : z.length ≤ 1000 := hs.1
    walk_at "dc"
    refine c_cut (fun σ' H' => σ' = [some (.ref f), some (.ref a), some (.str "find"), some (.str z), some (.bl (isFolderF (sortF fs) z))] ∧ Kp [] H H') ?_ ?_
    · walk_at "st"
      refine c_ite (fun g0 => ?_) (fun g0 => ?_)
      · walk_at "st"
        exact ⟨by rw [folder_eq, decide_eq_true g0]; rfl, Kp.refl⟩
      · walk_at "st"
        refine ⟨f, z, fs, rfl, F, G, hz, fun p H1 _ e1 hp => ?_⟩
        walk_at "st"
        walk_at "nw"
        intro p2 H2 N2
        refine c_neLS (zs := []) (SqL.of (N2.keep hp)) (SqL.of N2.at_) (mem2 z) (by simp) ?_
        walk_at "st"
        exact ⟨by rw [folder_eq, decide_eq_false g0]; rfl, e1.trans N2.kp⟩
    rintro _ H2 ⟨rfl, e2⟩
    have F2 := F.kp e2
    have ha2 := ha.kp e2
    clear ha
    have fin : ∀ {H1 : Hp} {Q1 : VK}, Kp [] H H1 → (∀ p H', Kp [] H H' → Dt K H' (.ref p) (.tuple (foundF (sortF fs) z wd)) → Q1 (.ref p) H') → spLFound K [.ref f, .str z, .str wd] H1 Q1 E0 := fun e h => ⟨f, z, wd, fs, rfl, F.kp e, G, hz, fun p H' e' hd => h p H' (e.trans e') hd⟩
    walk_at "dc"
    refine c_dinF F2.r ?_
    walk_at "st"
    refine c_iteB (fun g => ?_) (fun g => ?_)
    · walk_at "st"
      refine fin e2 fun p H1 e1 hd => ?_
      walk_at "st"
      walk_at "nw"
      intro p2 H2 N2
      refine q _ H2 (e1.trans N2.kp) ?_
      simp only [askF, at_sort G, g, Bool.true_or, if_true]
      exact .tup (SqT.of N2.at_) (.cons (.str _) (.cons (Dt.kp hd N2.kp) .nil))
    · walk_at "st"
      refine c_iteB (fun g2 => ?_) (fun g2 => ?_)
      · walk_at "st"
        refine fin e2 fun p H1 e1 hd => ?_
        walk_at "st"
        walk_at "nw"
        intro p2 H2 N2
        refine q _ H2 (e1.trans N2.kp) ?_
        simp only [askF, at_sort G, g, g2, Bool.or_true, if_true]
        exact .tup (SqT.of N2.at_) (.cons (.str _) (.cons (Dt.kp hd N2.kp) .nil))
      · walk_at "dc"
        refine c_iteNB (fun g3 => ?_) (fun g3 => ?_)
        · walk_at "dc"
          walk_at "nw"
          intro p1 H1 N1
          exact word1 e2 N1 (by simp only [askF, at_sort G, g, g2]; rfl)
        · rw [g2] at g3
          cases g3
  | kind z =>
    have hz : z.length ≤ 1000 := hs
    walk_at "dc"
    refine c_cut (fun σ' H' => σ' = [some (.ref f), some (.ref a), some (.str "kind"), some (.str z), some (.bl (isFolderF (sortF fs) z))] ∧ Kp [] H H') ?_ ?_
    · walk_at "st"
      refine c_ite (fun g0 => ?_) (fun g0 => ?_)
      · walk_at "st"
        exact ⟨by rw [folder_eq, decide_eq_true g0]; rfl, Kp.refl⟩
      · walk_at "st"
        refine ⟨f, z, fs, rfl, F, G, hz, fun p H1 _ e1 hp => ?_⟩
        walk_at "st"
        walk_at "nw"
        intro p2 H2 N2
        refine c_neLS (zs := []) (SqL.of (N2.keep hp)) (SqL.of N2.at_) (mem2 z) (by simp) ?_
        walk_at "st"
        exact ⟨by rw [folder_eq, decide_eq_false g0]; rfl, e1.trans N2.kp⟩
    rintro _ H2 ⟨rfl, e2⟩
    have F2 := F.kp e2
    have ha2 := ha.kp e2
    clear ha
    walk_at "dc"
    refine c_dinF F2.r ?_
    walk_at "st"
    refine c_iteB (fun g => ?_) (fun g => ?_)
    · walk_at "st"
      walk_at "nw"
      intro p1 H1 N1
      exact word1 e2 N1 (by simp only [askF, at_sort G, g]; rfl)
    · walk_at "st"
      refine c_iteNB (fun g2 => ?_) (fun g2 => ?_)
      · walk_at "dc"
        walk_at "nw"
        intro p1 H1 N1
        exact word1 e2 N1 (by simp only [askF, at_sort G, g, g2]; rfl)
      · walk_at "dc"
        walk_at "nw"
        intro p1 H1 N1
        exact word1 e2 N1 (by simp only [askF, at_sort G, g, g2]; rfl)
  | list z =>
    have hz : z.length ≤ 1000 := hs
    walk_at "dc"
    refine c_cut (fun σ' H' => σ' = [some (.ref f), some (.ref a), some (.str "list"), some (.str z), some (.bl (isFolderF (sortF fs) z))] ∧ Kp [] H H') ?_ ?_
    · walk_at "st"
      refine c_ite (fun g0 => ?_) (fun g0 => ?_)
      · walk_at "st"
        exact ⟨by rw [folder_eq, decide_eq_true g0]; rfl, Kp.refl⟩
      · walk_at "st"
        refine ⟨f, z, fs, rfl, F, G, hz, fun p H1 _ e1 hp => ?_⟩
        walk_at "st"
        walk_at "nw"
        intro p2 H2 N2
        refine c_neLS (zs := []) (SqL.of (N2.keep hp)) (SqL.of N2.at_) (mem2 z) (by simp) ?_
        walk_at "st"
        exact ⟨by rw [folder_eq, decide_eq_false g0]; rfl, e1.trans N2.kp⟩
    rintro _ H2 ⟨rfl, e2⟩
    have F2 := F.kp e2
    have ha2 := ha.kp e2
    clear ha
    walk_at "dc"
    refine c_iteNB (fun g2 => ?_) (fun g2 => ?_)
    · walk_at "dc"
      walk_at "nw"
      intro p1 H1 N1
      exact word1 e2 N1 (by simp only [askF, g2]; rfl)
    · walk_at "dc"
      refine ⟨f, z, fs, rfl, F2, G, hz, fun p H1 e1 hp => ?_⟩
      walk_at "st"
      walk_at "nw"
      intro p2 H2 N2
      refine q _ H2 ((e2.trans e1).trans N2.kp) ?_
      simp only [askF, g2, if_true]
      exact .tup (SqT.of N2.at_) (.cons (.str _) (.cons (dt_strs (SqT.kp N2.kp hp)) .nil))
  | count z =>
    have hz : z.length ≤ 1000 := hs
    walk_at "dc"
    refine c_cut (fun σ' H' => σ' = [some (.ref f), some (.ref a), some (.str "count"), some (.str z), some (.bl (isFolderF (sortF fs) z))] ∧ Kp [] H H') ?_ ?_
    · walk_at "st"
      refine c_ite (fun g0 => ?_) (fun g0 => ?_)
      · walk_at "st"
        exact ⟨by rw [folder_eq, decide_eq_true g0]; rfl, Kp.refl⟩
      · walk_at "st"
        refine ⟨f, z, fs, rfl, F, G, hz, fun p H1 _ e1 hp => ?_⟩
        walk_at "st"
        walk_at "nw"
        intro p2 H2 N2
        refine c_neLS (zs := []) (SqL.of (N2.keep hp)) (SqL.of N2.at_) (mem2 z) (by simp) ?_
        walk_at "st"
        exact ⟨by rw [folder_eq, decide_eq_false g0]; rfl, e1.trans N2.kp⟩
    rintro _ H2 ⟨rfl, e2⟩
    have F2 := F.kp e2
    have ha2 := ha.kp e2
    clear ha
    walk_at "dc"
    refine c_iteNB (fun g2 => ?_) (fun g2 => ?_)
    · walk_at "dc"
      walk_at "nw"
      intro p1 H1 N1
      exact word1 e2 N1 (by simp only [askF, g2]; rfl)
    · walk_at "dc"
      refine ⟨f, z, fs, rfl, F2, G, hz, fun p H1 _ e1 hp => ?_⟩
      walk_at "st"
      first | (refine c_lenL (SqL.of hp) ?_; walk_at "st") | skip
      rw [List.length_map]
      walk_at "nw"
      intro p2 H2 N2
      refine q _ H2 ((e2.trans e1).trans N2.kp) ?_
      simp only [askF, g2, if_true]
      exact .tup (SqT.of N2.at_) (.cons (.str _) (.cons (.int _) .nil))
  | _ => cases hq
theorem D__law_told (T : TX K mg) : DefAt P w K mg base CX0 "_law_told" 4 ["_law_table_here", "_law_action_here"] (spLAsked K) :=
  def_of T 42 67 sc__law_told bn__law_told (by walk_at "len") (b__law_told T)
end
end K36



namespace K36
open PySem L2 Sa
local macro_rules | `(tactic| walk_at "s1") => `(tactic| first | (with_reducible apply c_dgetK))
local macro_rules | `(tactic| walk_at "s1") => `(tactic| (with_reducible apply c_raiseO))
theorem dropK_files (rs : List (Addr × File)) (p : Str) : dropK (filesKv rs) (Sum.inr p) = filesKv (rs.filter fun r => !decide (r.2.1 = p)) := by
  unfold dropK filesKv
  rw [List.filter_map]
  congr 1
  apply List.filter_congr
  intro r _
  simp
theorem filter_snd (rs : List (Addr × File)) (p : Str) : (rs.filter fun r => !decide (r.2.1 = p)).map Prod.snd = withoutF (rs.map Prod.snd) p := by
  unfold withoutF
  rw [List.filter_map]
  rfl
section
variable {P : Program} {w : World} {K : PySem.W.Frag} {mg : Str → Option Value} {base : Heap}
def spTbWith (K : PySem.W.Frag) : Sp := fun vs H Q _ => ∃ (f : Addr) (p : Str) (lv : V) (fs : List File), vs = [.ref f, .str p, lv] ∧ FilesAt K H f fs ∧ Once fs ∧ fs.length ≤ 20 ∧
  ((lv = .non ∧ (at? fs p).isSome = true ∧ ∀ g H', Kp [] H H' → FilesAt K H' g (withoutF fs p) → Q (.ref g) H') ∨ ∃ (la : Addr) (lns : List Str), lv = .ref la ∧ SqT K H la (lns.map V.str) ∧ ∀ g H', Kp [] H H' → FilesAt K H' g (putR fs p lns) → Q (.ref g) H')
theorem sc__law_with : FnScope ["_law_table_here", "_law_path_here", "_law_lines_here", "_law_other", "_law_one_here"] ["_law_table_here", "_law_path_here", "_law_lines_here"] (defScope s__law_with) := ⟨rfl, rfl, rfl, by decide +kernel, rfl, by decide +kernel, by decide +kernel⟩
theorem bn__law_with : BindN "_law_with" s__law_with ["_law_table_here", "_law_path_here", "_law_lines_here"] := fun _ _ _ _ _ _ us hl => match us, hl with | [_, _, _], _ => rfl
theorem b__law_with (T : TX K mg) : Body P w K mg base "_law_with" s__law_with ["_law_table_here", "_law_path_here", "_law_lines_here", "_law_other", "_law_one_here"] 1 (spTbWith K) := by
  intro cdv A outer s H vs Q E h X hr
  obtain ⟨f, p, lv, fs, rfl, F, ho, hn, q⟩ := h
  refine ⟨_, (pss_cons (ps_set (i := 3) sc__law_with.nd rfl (Or.inl rfl) pe_dnewK) (pss_cons (ps_lock (ps_for PassesOwn.never rfl (pi_keys (pv 0)) (pg_name (i := 4) sc__law_with.nd rfl (Or.inl rfl)) (pss_one (ps_dput (hu_of hr) (pv 3) (pv 4) (pe_dget (hu_of hr) (pv 0) (pv 4) (fun _ _ => rfl)) rfl)))) (pss_cons (ps_if (pt_cmpR op_isU (pv 2) pe_non (nomark _)) (pss_one (ps_expr (pe_dpopU (pv 3) (pv 1)))) (pss_one (ps_dput (hu_of hr) (pv 3) (pv 1) (pe_callTy (cr_tuple (K := K)) rfl (T.free 28) (by decide +kernel) (pa_cons (pv 2) pa_nil)) rfl))) (pss_one (ps_ret (pv 3)))))), ?_⟩
  walk_at "st"
  refine c_dnew fun gd H1 N1 => ?_
  have F1 := F.kp N1.kp
  obtain ⟨ls, hf, hl, hfs⟩ := id F1.ex
  obtain ⟨rs2, hh2, _, _⟩ := id F.ex
  have nfg : f ≠ gd := ne_of_none hh2 N1.fr
  have hll : ls.length = fs.length := by rw [← hfs, List.length_map]
  walk_at "st"
  refine c_lockF hf fun od => ?_
  walk_at "st"
  refine c_keysAt upd_same ?_
  have hgL : upd H1 f (.frz od (.dK (filesKv ls))) gd = some (.dK []) := upd_other (Ne.symm nfg) N1.at_
  have ktL : Kt H1 (upd H1 f (.frz od (.dK (filesKv ls)))) := Kt.lock hf
  refine forQ (itn_ks (ls := ls)) (fun i σ H' => ∃ v4, σ = [some (.ref f), some (.str p), some lv, some (.ref gd), v4] ∧ Kp [gd] (upd H1 f (.frz od (.dK (filesKv ls)))) H' ∧ FilesAt K H' gd (fs.take i)) ⟨_, rfl, Kp.refl, FilesAt.nil hgL⟩ (by rintro i σ H' ⟨_, _, e, _⟩; exact e.at1 nfg upd_same) ?_ ?_
  · rintro i y σ _ H4 hi ⟨v4, rfl, e4, F4⟩ ⟨rfl, l, hl1, rfl⟩
    have kt4 : Kt H1 H4 := ktL.trans (e4.kt1 (NoT.dK hgL))
    have hl2 : fs[i]? = some l.2 := by rw [← hfs, List.getElem?_map, hl1]; rfl
    have FR : FilesR K H4 f fs := ⟨ls, .inr ⟨od, e4.at1 nfg upd_same⟩, fun r hr => SqT.kt kt4 (hl r hr), hfs⟩
    have ga : at? fs l.2.1 = some l.2.2 := (at_some ho).mpr (List.mem_of_getElem? hl2)
    walk_at "st"
    refine c_dgetR FR ga fun la hla => ?_
    walk_at "st"
    have nin : l.2.1 ∉ pathsOf (fs.take i) := fun hm => by
      obtain ⟨r, hr, er⟩ := List.mem_map.mp hm
      obtain ⟨j, hj, ej⟩ := List.mem_iff_getElem.mp hr
      rw [List.getElem_take] at ej
      rw [List.length_take] at hj
      have o1 : (fs.map Prod.fst)[j]? = some l.2.1 := by rw [List.getElem?_map, List.getElem?_eq_getElem (by omega), ej, Option.map_some, er]
      have o2 : (fs.map Prod.fst)[i]? = some l.2.1 := by rw [List.getElem?_map, hl2]; rfl
      have := (List.getElem?_inj (by rw [List.length_map]; omega) ho).mp (o1.trans o2.symm)
      omega
    refine c_putF F4 (by rw [List.length_take]; omega) hla fun H5 e5 kt5 F5 back => ?_
    walk_at "st"
    refine ⟨_, rfl, e4.trans e5, ?_⟩
    rw [putR_new nin] at F5
    rw [take_succ' hl2]
    exact F5
  · rintro σ H4 ⟨v4, rfl, e4, F4⟩
    rw [List.take_of_length_le (by omega)] at F4
    refine ⟨e4.at1 nfg upd_same, ?_⟩
    have k34 : Kp [gd] H1 (upd H4 f (.dK (filesKv ls))) := lock_kpm hf nfg e4
    have k0 : Kp [] H (upd H4 f (.dK (filesKv ls))) := Kp.drop_fresh (N1.kp.mono.trans k34) N1.fr
    have Fg : FilesAt K (upd H4 f (.dK (filesKv ls))) gd fs := by
      obtain ⟨rs, q1, q2, q3⟩ := F4.ex
      have : Kt H4 (upd H4 f (.dK (filesKv ls))) := fun b xs hb => by
        by_cases z : b = f
        · subst z
          have := e4.at1 nfg upd_same
          rcases hb with hb | ⟨o, hb⟩ <;> rw [this] at hb <;> cases hb
        · exact rd_at (fun o ho => by rw [upd_ne z]; exact ho) hb
      exact ⟨rs, upd_other (Ne.symm nfg) q1, fun r hr => SqT.kt this (q2 r hr), q3⟩
    have kt0 : Kt H (upd H4 f (.dK (filesKv ls))) := k0.kt
    generalize upd H4 f (.dK (filesKv ls)) = H5 at *
    have putk : ∀ {H6 : Hp}, Kp [gd] H5 H6 → Kp [] H H6 := fun e => Kp.drop_fresh (k0.mono.trans e) N1.fr
    rcases q with ⟨rfl, hp, q⟩ | ⟨la, lns, rfl, hla, q⟩
    · walk_at "dc"
      obtain ⟨rs, q1, q2, q3⟩ := Fg.ex
      refine c_dpop1 ?_
      walk_at "st"
      obtain ⟨lns, hlns⟩ := Option.isSome_iff_exists.mp hp
      rw [← q3, find_at] at hlns
      obtain ⟨l, hl0, _⟩ := Option.map_eq_some_iff.mp hlns
      refine ⟨gd, rfl, .inl ⟨_, .inl q1⟩, ?_⟩
      walk_at "st"
      refine ⟨filesKv rs, Sum.inr p, .ref l.1, q1, rfl, by rw [filesKv_val, hl0]; rfl, ?_⟩
      rw [dropK_files]
      walk_at "st"
      have kt : Kt H5 (upd H5 gd (.dK (filesKv (rs.filter fun r => !decide (r.2.1 = p))))) := Kt.upd1 (NoT.dK q1)
      refine q gd _ (putk (Kp.mut (by simp))) ⟨_, upd_same, fun r hr => SqT.kt kt (q2 r (List.mem_filter.mp hr).1), ?_⟩
      rw [filter_snd, q3]
    · walk_at "dc"
      refine c_tupleT (SqT.kt kt0 hla) ?_
      walk_at "st"
      refine c_putF Fg (by omega) (SqT.kt kt0 hla) fun H6 e6 kt6 F6 back => ?_
      walk_at "st"
      exact q gd H6 (putk e6) F6
theorem D__law_with (T : TX K mg) : DefAt P w K mg base CX0 "_law_with" 2 ["_law_table_here", "_law_path_here", "_law_lines_here"] (spTbWith K) :=
  def_of T 43 68 sc__law_with bn__law_with (by walk_at "len") (b__law_with T)
/-- what the law's act hands back -/
def RetT (K : PySem.W.Frag) (H : Hp) (Q : VK) (r : PyData × List File) : Prop := ∀ p v f' fs' H', Kp [] H H' → SqT K H' p [v, .ref f'] → Dt K H' v r.1 → FilesAt K H' f' fs' → GoodP fs' → sortF fs' = r.2 → Q (.ref p) H'
theorem splice_bad {p : Str} {old new : List Str} (hb : (Action.splice p old new).bad = none) : isPathS p = true ∧ isLinesS old = true ∧ isLinesS new = true := by
  simp only [Action.bad] at hb
  split at hb
  · rename_i h1
    split at hb
    · rename_i h2
      split at hb
      · rename_i h3
        rw [Bool.and_eq_true] at h2
        exact ⟨h1, h2.1, h3⟩
      · cases hb
    · cases hb
  · cases hb
section
variable {H : Hp} {Q : VK} {x : Action} {fs : List File} {f : Addr}
/-- a deed that is refused -/
theorem RetT.no (q : RetT K H Q (actF (sortF fs) x)) (hq : x.isQ = false) (G : GoodP fs) (F : FilesAt K H f fs) {z : Str} (hz : refuseF fs x = z) (nz : z ≠ "") {H2 H3 H4 : Hp} {p3 p4 : Addr} (e : Kp [] H H2) (N3 : New H2 p3 (.tup [.str z]) H3) (N4 : New H3 p4 (.tup [.ref p3, .ref f]) H4) : Q (.ref p4) H4 := by
  have ea : actF (sortF fs) x = deedF (sortF fs) x := by unfold actF; rw [hq]; rfl
  have k4 := (e.trans N3.kp).trans N4.kp
  refine q p4 (.ref p3) f fs H4 k4 (SqT.of N4.at_) ?_ (F.kp k4) G ?_
  · rw [ea, (deed_eq G hq).2 (by rw [hz]; exact nz), hz]
    exact .tup (SqT.of (N4.keep N3.at_)) (.cons (.str _) .nil)
  · rw [ea, (deed_eq G hq).2 (by rw [hz]; exact nz)]
/-- a deed that is done -/
theorem RetT.yes (q : RetT K H Q (actF (sortF fs) x)) (hq : x.isQ = false) (hb : x.bad = none) (G : GoodP fs) (hz : refuseF fs x = "") {H4 H5 : Hp} {p3 p5 g : Addr} {gs : List File} (e : Kp [] H H4) (h3 : H4 p3 = some (.tup [.str "done"])) (F : FilesAt K H4 g gs) (pm : gs.Perm (laterF fs x)) (N5 : New H4 p5 (.tup [.ref p3, .ref g]) H5) : Q (.ref p5) H5 := by
  have ea : actF (sortF fs) x = deedF (sortF fs) x := by unfold actF; rw [hq]; rfl
  have ed := (deed_eq G hq).1 hz
  have gact := (G.sort).act (x := x) hb
  rw [ea, ed] at gact
  have gl : GoodP (laterF fs x) := gact.perm (sortF_perm _)
  have gg : GoodP gs := gl.perm pm.symm
  refine q p5 (.ref p3) g gs H5 (e.trans N5.kp) (SqT.of N5.at_) ?_ (F.kp N5.kp) gg ?_
  · rw [ea, ed]
    exact .tup (SqT.of (N5.keep h3)) (.cons (.str _) .nil)
  · rw [ea, ed]
    exact sortF_congr pm gg.once
end
theorem word_ne : ∀ z : Str, z ∈ (["none", "done", "missing", "blocked", "full", "absent", "ambiguous", "long"] : List Str) → z ≠ ("" : Str) := by decide +kernel
def spTbSpliced (K : PySem.W.Frag) : Sp := fun vs H Q _ => ∃ (f l m : Addr) (p : Str) (old new : List Str) (fs : List File), vs = [.ref f, .str p, .ref l, .ref m] ∧ FilesAt K H f fs ∧ GoodP fs ∧ (Action.splice p old new).bad = none ∧ (at? fs p).isSome = true ∧
  SqT K H l (old.map V.str) ∧ SqT K H m (new.map V.str) ∧ RetT K H Q (actF (sortF fs) (.splice p old new))
theorem sc__law_spliced : FnScope ["_law_table_here", "_law_path_here", "_law_old", "_law_new_here", "_law_lines_here", "_law_places", "_law_k"] ["_law_table_here", "_law_path_here", "_law_old", "_law_new_here"] (defScope s__law_spliced) := ⟨rfl, rfl, rfl, by decide +kernel, rfl, by decide +kernel, by decide +kernel⟩
theorem bn__law_spliced : BindN "_law_spliced" s__law_spliced ["_law_table_here", "_law_path_here", "_law_old", "_law_new_here"] := fun _ _ _ _ _ _ us hl => match us, hl with | [_, _, _, _], _ => rfl
theorem b__law_spliced (T : TX K mg) : Body P w K mg base "_law_spliced" s__law_spliced ["_law_table_here", "_law_path_here", "_law_old", "_law_new_here", "_law_lines_here", "_law_places", "_law_k"] 2 (spTbSpliced K) := by
  intro cdv A outer s H vs Q E h X hr
  obtain ⟨f, l, m, p, old, new, fs, rfl, F, G, hb, hp, hl, hm, q⟩ := h
  have D__law_with := D__law_with (P := P) (w := w) (base := base) T
  refine ⟨_, (pss_cons (ps_set (i := 4) sc__law_spliced.nd rfl (Or.inr rfl) (pe_dget (hu_of hr) (pv 0) (pv 1) (fun _ _ => rfl))) (pss_cons (ps_setLc (i := 5) (own := [("_law_k", 6)]) rfl sc__law_spliced.nd rfl rfl (sw_true rfl rfl rfl (by decide +kernel)) (pi_range1 rfl (T.free 27) (pa_cons (pe_op (op_addU (K := K)) (pe_op op_subU (pe_callB (cr_len (K := K)) rfl (T.free 2) PySem.boot_len (pa_cons (pv 4) pa_nil)) (pe_callB (cr_len (K := K)) rfl (T.free 2) PySem.boot_len (pa_cons (pv 2) pa_nil))) pe_int) pa_nil)) (blkOk_by (N := ["_law_table_here", "_law_path_here", "_law_old", "_law_new_here", "_law_lines_here", "_law_places", "_law_k"]) (sc := defScope s__law_spliced) (by decide +kernel)) (fun _ _ _ _ _ => (pg_name (i := 6) sc__law_spliced.nd rfl (Or.inl rfl))) (fun _ _ _ _ _ => (pts_one (pt_cmpR (op_eqU (K := K) hr.units) (pe_slice (sl_U (K := K)) (pv 4) (po_some (pv 6)) (po_some (pe_op (op_addU (K := K)) (pv 6) (pe_callB (cr_len (K := K)) rfl (T.free 2) PySem.boot_len (pa_cons (pv 2) pa_nil))))) (pv 2) (nomark _)))) (fun _ _ _ _ _ => (pv 6))) (pss_cons (ps_if (pt_cmpR (op_eqU (K := K) hr.units) (pv 5) (pe_lst pa_nil) (nomark _)) (pss_one (ps_ret (pe_tup (pa_cons (pe_tup (pa_cons pe_str pa_nil)) (pa_cons (pv 0) pa_nil))))) pss_nil) (pss_cons (ps_if (pt_cmpR op_gtU (pe_callB (cr_len (K := K)) rfl (T.free 2) PySem.boot_len (pa_cons (pv 5) pa_nil)) pe_int (nomark _)) (pss_one (ps_ret (pe_tup (pa_cons (pe_tup (pa_cons pe_str pa_nil)) (pa_cons (pv 0) pa_nil))))) pss_nil) (pss_cons (ps_if (pt_cmpR op_gtU (pe_op (op_addU (K := K)) (pe_op op_subU (pe_callB (cr_len (K := K)) rfl (T.free 2) PySem.boot_len (pa_cons (pv 4) pa_nil)) (pe_callB (cr_len (K := K)) rfl (T.free 2) PySem.boot_len (pa_cons (pv 2) pa_nil))) (pe_callB (cr_len (K := K)) rfl (T.free 2) PySem.boot_len (pa_cons (pv 3) pa_nil))) pe_int (nomark _)) (pss_one (ps_ret (pe_tup (pa_cons (pe_tup (pa_cons pe_str pa_nil)) (pa_cons (pv 0) pa_nil))))) pss_nil) (pss_one (ps_ret (pe_tup (pa_cons (pe_tup (pa_cons pe_str pa_nil)) (pa_cons (pe_callA D__law_with hr pass0 (pa_cons (pv 0) (pa_cons (pv 1) (pa_cons (pe_op (op_addU (K := K)) (pe_op (op_addU (K := K)) (pe_slice (sl_U (K := K)) (pv 4) po_none (po_some (pe_ix (ix_U (K := K)) (pv 5) pe_int (fun _ _ => rfl)))) (pv 3)) (pe_slice (sl_U (K := K)) (pv 4) (po_some (pe_op (op_addU (K := K)) (pe_ix (ix_U (K := K)) (pv 5) pe_int (fun _ _ => rfl)) (pe_callB (cr_len (K := K)) rfl (T.free 2) PySem.boot_len (pa_cons (pv 2) pa_nil)))) po_none)) pa_nil)))) pa_nil)))))))))), ?_⟩
  have gl := G.len
  obtain ⟨hpp, ho, hn⟩ := splice_bad hb
  obtain ⟨lns, ga⟩ := Option.isSome_iff_exists.mp hp
  obtain ⟨ol, oo⟩ := lines_len ho
  obtain ⟨nl, no⟩ := lines_len hn
  obtain ⟨ll, lo⟩ := lines_len (G.lines _ (at_mem ga))
  have ll : lns.length ≤ 12 := ll
  walk_at "st"
  refine c_dgetR F.r ga fun la hla => ?_
  walk_at "st"
  rw [List.length_map, List.length_map]
  refine c_r1C (by omega) ?_
  refine lcQ_fil (itn_r (lo := 0)) (fun i => V.int (i : Nat)) (fun i => decide (cutL lns (some ((i : Nat) : Int)) (some ((i : Nat) + (old.length : Int))) = old)) (by omega) (fun _ _ => trivial) (fun i x H' H'' R S hi e y k1 k2 => ?_) (fun Dl H1 hD e1 hacc => ?_)
  · obtain ⟨rfl, rfl⟩ := y
    walk_at "st"
    refine ⟨rfl, ?_⟩
    walk_at "st"
    refine c_lenT (SqT.kp e hl) ?_
    walk_at "st"
    refine c_slT (SqT.kp e hla) fun p H2 e2 hp => ?_
    walk_at "st"
    rw [cutL_map, List.length_map, Int.zero_add] at hp
    refine c_eqTS hp (SqT.kp (e.trans e2) hl) (fun y hy => plain_ok (lo y ?_).2) (fun y hy => plain_ok (oo y hy).2) ?_
    · unfold cutL at hy
      exact List.mem_of_mem_drop (List.mem_of_mem_take hy)
    walk_at "st"
    refine c_ite (fun g => ?_) (fun g => ?_)
    · walk_at "st"
      rw [Int.zero_add]
      exact k1 (decide_eq_true g) _ e2
    · exact k2 (decide_eq_false g) _ e2
  have hacc : H1 Dl = some (.lst ((placesF lns old).map fun i => V.int (i : Nat))) := hacc
  have hD1 : SqL K H1 Dl (((placesF lns old).map fun n => ((n : Nat) : Int)).map V.int) := by
    rw [List.map_map]
    exact SqL.of hacc
  have isq : (Action.splice p old new).isQ = false := rfl
  walk_at "st"
  walk_at "nw"
  intro p2 H2 N2
  refine c_eqLI (ms := []) (SqL.kp N2.kp hD1) (SqL.of N2.at_) ?_
  walk_at "st"
  refine c_ite (fun g1 => ?_) (fun g1 => ?_)
  · have hpl : placesF lns old = [] := List.map_eq_nil_iff.mp g1
    walk_at "st"
    walk_at "nw"
    intro p3 H3 N3
    walk_at "st"
    walk_at "nw"
    intro p4 H4 N4
    exact q.no isq G F (by simp only [refuseF, ga, hpl]) (word_ne "absent" (by simp)) (e1.trans N2.kp) N3 N4
  walk_at "st"
  rw [List.length_map]
  refine c_ite (fun g2 => ?_) (fun g2 => ?_)
  · have hpl : ∃ i j r, placesF lns old = i :: j :: r := by
      cases h : placesF lns old with
      | nil => rw [h] at g2; exact absurd g2 (by simp)
      | cons i r =>
        cases r with
        | nil => rw [h] at g2; exact absurd g2 (by simp)
        | cons j r => exact ⟨i, j, r, rfl⟩
    obtain ⟨i, j, r, hpl⟩ := hpl
    walk_at "st"
    walk_at "nw"
    intro p3 H3 N3
    walk_at "st"
    walk_at "nw"
    intro p4 H4 N4
    exact q.no isq G F (by simp only [refuseF, ga, hpl]) (word_ne "ambiguous" (by simp)) (e1.trans N2.kp) N3 N4
  obtain ⟨i, hpl⟩ : ∃ i, placesF lns old = [i] := by
    cases h : placesF lns old with
    | nil => rw [h] at g1; exact absurd rfl g1
    | cons i r =>
      cases r with
      | nil => exact ⟨i, rfl⟩
      | cons j r => rw [h] at g2; exact absurd g2 (by simp only [List.length_cons]; omega)
  have hi := places_lt (xs := lns) (ys := old) (i := i) (by rw [hpl]; exact List.mem_singleton.mpr rfl)
  have k2 := e1.trans N2.kp
  walk_at "st"
  refine c_lenT (SqT.kp k2 hla) ?_
  walk_at "st"
  refine c_lenT (SqT.kp k2 hl) ?_
  walk_at "st"
  refine c_lenT (SqT.kp k2 hm) ?_
  walk_at "st"
  rw [List.length_map, List.length_map, List.length_map]
  refine c_ite (fun g3 => ?_) (fun g3 => ?_)
  · walk_at "st"
    walk_at "nw"
    intro p3 H3 N3
    walk_at "st"
    walk_at "nw"
    intro p4 H4 N4
    exact q.no isq G F (by simp only [refuseF, ga, hpl]; rw [if_pos (decide_eq_true g3)]) (word_ne "long" (by simp)) k2 N3 N4
  walk_at "st"
  walk_at "nw"
  intro p3 H3 N3
  have k3 := k2.trans N3.kp
  have hD3 : SqL K H3 Dl [V.int (i : Nat)] := by
    have := SqL.kp (N2.kp.trans N3.kp) hD1
    rw [hpl] at this
    exact this
  have c1 : (cutL (lns.map V.str) none (some (i : Int))).length ≤ 12 := by
    unfold cutL
    rw [List.length_take, List.length_drop, List.length_map]
    omega
  have c2 : (cutL (lns.map V.str) (some ((i : Int) + ((old.map V.str).length : Int))) none).length ≤ 12 := by
    unfold cutL
    rw [List.length_take, List.length_drop, List.length_map]
    omega
  walk_at "st"
  first | (refine c_ixL (v := .int (i : Nat)) hD3 rfl ?_; walk_at "st") | skip
  refine c_slT (SqT.kp k3 hla) fun a7 H7 e7 h7 => ?_
  walk_at "st"
  refine c_addT h7 (SqT.kp (k3.trans e7) hm) (by rw [sizeLine_eq, List.length_map]; omega) fun a8 H8 e8 h8 => ?_
  walk_at "st"
  have k8 := (k3.trans e7).trans e8
  have hD8 := SqL.kp (e7.trans e8) hD3
  first | (refine c_ixL (v := .int (i : Nat)) hD8 rfl ?_; walk_at "st") | (refine c_ixL (v := .int (i : Nat)) hD8 (by simp [atI, ixN]) ?_; walk_at "st") | skip
  refine c_lenT (SqT.kp k8 hl) ?_
  walk_at "st"
  refine c_slT (SqT.kp k8 hla) fun a9 H9 e9 h9 => ?_
  walk_at "st"
  refine c_addT (SqT.kp e9 h8) h9 (by rw [sizeLine_eq, List.length_append, List.length_map]; omega) fun a10 H10 e10 h10 => ?_
  walk_at "st"
  have k10 := (k8.trans e9).trans e10
  have h10 : SqT K H10 a10 ((splicedL lns old new i).map V.str) := by
    rw [cutL_map, cutL_map, cutL_to (by omega) (by omega), List.length_map, cutL_from (by omega) (by omega)] at h10
    have e1 : ((i : Int) + (old.length : Int)).toNat = i + old.length := by omega
    rw [e1, Int.toNat_natCast] at h10
    unfold splicedL
    rw [List.map_append, List.map_append]
    exact h10
  refine ⟨f, p, .ref a10, fs, rfl, F.kp k10, G.once, gl, .inr ⟨a10, _, rfl, h10, fun g H11 e11 F11 => ?_⟩⟩
  walk_at "st"
  walk_at "nw"
  intro p12 H12 N12
  refine q.yes isq hb G (by simp only [refuseF, ga, hpl]; rw [if_neg (by rw [decide_eq_false g3]; exact Bool.false_ne_true)]) (k10.trans e11) ((((e7.trans e8).trans e9).trans e10).trans e11 |>.at0 N3.at_) F11 ?_ N12
  simp only [laterF, ga, Option.getD_some, hpl]
  exact putR_perm G.once p _
theorem D__law_spliced (T : TX K mg) : DefAt P w K mg base CX0 "_law_spliced" 3 ["_law_table_here", "_law_path_here", "_law_old", "_law_new_here"] (spTbSpliced K) :=
  def_of T 44 69 sc__law_spliced bn__law_spliced (by walk_at "len") (b__law_spliced T)
end
end K36



namespace K36
open PySem L2 Sa
local macro_rules | `(tactic| walk_at "s1") => `(tactic| first | (with_reducible apply c_dgetK))
local macro_rules | `(tactic| walk_at "s1") => `(tactic| (with_reducible apply c_raiseO))
theorem ents_acts {K : PySem.W.Frag} {H : Hp} : ∀ {js : List Entry} {vs : List V}, DtAll K H vs (js.map entryD) → ∃ as : List Addr, as.length = js.length ∧ ∀ (i : Nat) (e : Entry), js[i]? = some e → ∃ p a v, vs[i]? = some (.ref p) ∧ SqT K H p [.ref a, v] ∧ as[i]? = some a ∧ ActAt K H a e.1
  | [], vs, h => ⟨[], rfl, by simp⟩
  | e :: r, vs, h => by
    obtain ⟨p, a, v, g1, g2, g3, _⟩ := ent_at h (i := 0) (e := e) rfl
    obtain ⟨u, us, rfl, _, h2⟩ := dta_cons h
    obtain ⟨as, al, h3⟩ := ents_acts h2
    refine ⟨a :: as, by rw [List.length_cons, List.length_cons, al], fun i e' he => ?_⟩
    cases i with
    | zero =>
      obtain rfl : e = e' := Option.some.inj he
      exact ⟨p, a, v, g1, g2, rfl, g3⟩
    | succ i => exact h3 i e' he
section
variable {P : Program} {w : World} {K : PySem.W.Frag} {mg : Str → Option Value} {base : Heap}
def spTbAct (K : PySem.W.Frag) : Sp := fun vs H Q _ => ∃ (f a : Addr) (x : Action) (fs : List File), vs = [.ref f, .ref a] ∧ FilesAt K H f fs ∧ GoodP fs ∧ ActAt K H a x ∧ x.bad = none ∧ RetT K H Q (actF (sortF fs) x)
theorem sc__law_act : FnScope ["_law_table_here", "_law_action_here", "_law_word", "_law_path_here", "_law_rest"] ["_law_table_here", "_law_action_here"] (defScope s__law_act) := ⟨rfl, rfl, rfl, by decide +kernel, rfl, by decide +kernel, by decide +kernel⟩
theorem bn__law_act : BindN "_law_act" s__law_act ["_law_table_here", "_law_action_here"] := fun _ _ _ _ _ _ us hl => match us, hl with | [_, _], _ => rfl
theorem b__law_act (T : TX K mg) : Body P w K mg base "_law_act" s__law_act ["_law_table_here", "_law_action_here", "_law_word", "_law_path_here", "_law_rest"] 4 (spTbAct K) := by
  intro cdv A outer s H vs Q E h X hr
  obtain ⟨f, a, x, fs, rfl, F, G, ha, hb, q⟩ := h
  have D__law_barred := D__law_barred (P := P) (w := w) (base := base) T; have D__law_spliced := D__law_spliced (P := P) (w := w) (base := base) T; have D__law_told := D__law_told (P := P) (w := w) (base := base) T; have D__law_with := D__law_with (P := P) (w := w) (base := base) T
  refine ⟨_, (pss_cons (ps_set (i := 2) sc__law_act.nd rfl (Or.inl rfl) (pe_ix (ix_U (K := K)) (pv 1) pe_int (fun _ _ => rfl))) (pss_cons (ps_set (i := 3) sc__law_act.nd rfl (Or.inl rfl) (pe_ix (ix_U (K := K)) (pv 1) pe_int (fun _ _ => rfl))) (pss_cons (ps_if (pt_cmpR (op_inU (K := K)) (pv 2) (pe_tup (pa_cons pe_str (pa_cons pe_str (pa_cons pe_str (pa_cons pe_str (pa_cons pe_str pa_nil)))))) rfl) (pss_one (ps_ret (pe_tup (pa_cons (pe_callA D__law_told hr pass0 (pa_cons (pv 0) (pa_cons (pv 1) pa_nil))) (pa_cons (pv 0) pa_nil))))) pss_nil) (pss_cons (ps_if (pt_cmpR (op_eqU (K := K) hr.units) (pv 2) pe_str (nomark _)) (pss_cons (ps_if (pt_tru (K := K) (pe_callA D__law_barred hr pass0 (pa_cons (pv 0) (pa_cons (pv 3) pa_nil)))) (pss_one (ps_ret (pe_tup (pa_cons (pe_tup (pa_cons pe_str pa_nil)) (pa_cons (pv 0) pa_nil))))) pss_nil) (pss_cons (ps_if (PW.pt (pw_and (pt_cmp (pc_dnotin (hu_of hr) (pv 3) (pv 0)) rfl) (pw_and1 (pt_cmpR (op_eqU (K := K) hr.units) (pe_callB cr_lenD rfl (T.free 2) PySem.boot_len (pa_cons (pv 0) pa_nil)) pe_int (nomark _))))) (pss_one (ps_ret (pe_tup (pa_cons (pe_tup (pa_cons pe_str pa_nil)) (pa_cons (pv 0) pa_nil))))) pss_nil) (pss_one (ps_ret (pe_tup (pa_cons (pe_tup (pa_cons pe_str pa_nil)) (pa_cons (pe_callA D__law_with hr pass0 (pa_cons (pv 0) (pa_cons (pv 3) (pa_cons (pe_ix (ix_U (K := K)) (pv 1) pe_int (fun _ _ => rfl)) pa_nil)))) pa_nil))))))) pss_nil) (pss_cons (ps_if (pt_cmp (pc_dnotin (hu_of hr) (pv 3) (pv 0)) rfl) (pss_one (ps_ret (pe_tup (pa_cons (pe_tup (pa_cons pe_str pa_nil)) (pa_cons (pv 0) pa_nil))))) pss_nil) (pss_cons (ps_if (pt_cmpR (op_eqU (K := K) hr.units) (pv 2) pe_str (nomark _)) (pss_one (ps_ret (pe_tup (pa_cons (pe_tup (pa_cons pe_str pa_nil)) (pa_cons (pe_callA D__law_with hr pass0 (pa_cons (pv 0) (pa_cons (pv 3) (pa_cons pe_non pa_nil)))) pa_nil))))) pss_nil) (pss_cons (ps_if (pt_cmpR (op_eqU (K := K) hr.units) (pv 2) pe_str (nomark _)) (pss_one (ps_ret (pe_callA D__law_spliced hr pass0 (pa_cons (pv 0) (pa_cons (pv 3) (pa_cons (pe_ix (ix_U (K := K)) (pv 1) pe_int (fun _ _ => rfl)) (pa_cons (pe_ix (ix_U (K := K)) (pv 1) pe_int (fun _ _ => rfl)) pa_nil))))))) pss_nil) (pss_cons (ps_set (i := 4) sc__law_act.nd rfl (Or.inl rfl) (pe_callA D__law_with hr pass0 (pa_cons (pv 0) (pa_cons (pv 3) (pa_cons pe_non pa_nil))))) (pss_cons (ps_if (PW.pt (pw_or (pt_cmp (pc_din (hu_of hr) (pe_ix (ix_U (K := K)) (pv 1) pe_int (fun _ _ => rfl)) (pv 4)) rfl) (pw_or1 (pt_tru (K := K) (pe_callA D__law_barred hr pass0 (pa_cons (pv 4) (pa_cons (pe_ix (ix_U (K := K)) (pv 1) pe_int (fun _ _ => rfl)) pa_nil))))))) (pss_one (ps_ret (pe_tup (pa_cons (pe_tup (pa_cons pe_str pa_nil)) (pa_cons (pv 0) pa_nil))))) pss_nil) (pss_one (ps_ret (pe_tup (pa_cons (pe_tup (pa_cons pe_str pa_nil)) (pa_cons (pe_callA D__law_with hr pass0 (pa_cons (pv 4) (pa_cons (pe_ix (ix_U (K := K)) (pv 1) pe_int (fun _ _ => rfl)) (pa_cons (pe_dget (hu_of hr) (pv 0) (pv 3) (fun _ _ => rfl)) pa_nil)))) pa_nil)))))))))))))), ?_⟩
  have gl := G.len
  obtain ⟨r0, h0⟩ := ha.head
  walk_at "st"
  refine c_ixT h0 (atI_nat (j := 0) rfl) ?_
  walk_at "st"
  refine c_ixT h0 (atI_nat (j := 1) rfl) ?_
  walk_at "st"
  walk_at "nw"
  intro p1 H1 N1
  walk_at "st"
  refine c_inSs (ys := ["read", "kind", "list", "find", "count"]) (.inr (SqT.of N1.at_)) ?_
  rw [word_isQ]
  have F1 := F.kp N1.kp
  have ha1 := ha.kp N1.kp
  have e1 : Kp [] H H1 := N1.kp
  walk_at "st"
  refine c_iteB (fun hq => ?_) (fun hq => ?_)
  · walk_at "st"
    refine ⟨f, a, x, fs, rfl, F1, G, ha1, hq, bad_sane hb, fun v H2 e2 hv => ?_⟩
    walk_at "st"
    walk_at "nw"
    intro p3 H3 N3
    have e : actF (sortF fs) x = (askF (sortF fs) x, sortF fs) := by unfold actF; rw [if_pos hq]
    rw [e] at q
    exact q p3 v f fs H3 ((N1.kp.trans e2).trans N3.kp) (SqT.of N3.at_) (Dt.kp hv N3.kp) ((F1.kp e2).kp N3.kp) G rfl
  clear h0
  cases x with
  | write p ls =>
    dsimp only [Action.word, Action.place]
    obtain ⟨hp, hls⟩ : isPathS p = true ∧ isLinesS ls = true := by
      simp only [Action.bad] at hb
      split at hb
      · split at hb
        · exact ⟨‹_›, ‹_›⟩
        · cases hb
      · cases hb
    have pl := path_len hp
    obtain ⟨l, h0, hl⟩ := ha1
    walk_at "dc"
    refine ⟨f, p, fs, rfl, F1, G, by omega, path_ok hp, fun H2 e2 => ?_⟩
    have k2 := e1.trans e2
    have F2 := F1.kp e2
    walk_at "st"
    refine c_iteB (fun g => ?_) (fun g => ?_)
    · walk_at "st"
      walk_at "nw"
      intro p3 H3 N3
      walk_at "st"
      walk_at "nw"
      intro p4 H4 N4
      exact q.no rfl G F (by simp only [refuseF, g, if_true]) (word_ne "blocked" (by simp)) k2 N3 N4
    walk_at "st"
    refine c_dninF F2.r ?_
    walk_at "st"
    cases ga : (at? fs p).isSome with
    | true =>
      have hf : ((at? fs p).isNone && decide (fs.length = 20)) = false := by rw [← Option.not_isSome, ga]; rfl
      walk_at "dc"
      walk_at "nw"
      intro p3 H3 N3
      walk_at "st"
      refine c_ixT (SqT.kp (e2.trans N3.kp) h0) rfl ?_
      walk_at "st"
      refine ⟨f, p, .ref l, fs, rfl, F2.kp N3.kp, G.once, gl, .inr ⟨l, ls, rfl, SqT.kp (e2.trans N3.kp) hl, fun g' H4 e4 F4 => ?_⟩⟩
      walk_at "st"
      walk_at "nw"
      intro p5 H5 N5
      exact q.yes rfl hb G (by simp only [refuseF, g, hf, Bool.false_eq_true, if_false]) ((k2.trans N3.kp).trans e4) (e4.at0 N3.at_) F4 (putR_perm G.once p ls) N5
    | false =>
      walk_at "dc"
      refine c_lenF F2.r ?_
      walk_at "st"
      refine c_ite (fun g2 => ?_) (fun g2 => ?_)
      · have hf : ((at? fs p).isNone && decide (fs.length = 20)) = true := by rw [← Option.not_isSome, ga, decide_eq_true (by omega : fs.length = 20)]; rfl
        walk_at "st"
        walk_at "nw"
        intro p3 H3 N3
        walk_at "st"
        walk_at "nw"
        intro p4 H4 N4
        exact q.no rfl G F (by simp only [refuseF, g, hf, Bool.false_eq_true, if_false, if_true]) (word_ne "full" (by simp)) k2 N3 N4
      · have hf : ((at? fs p).isNone && decide (fs.length = 20)) = false := by rw [decide_eq_false (by omega : ¬ fs.length = 20), Bool.and_false]
        walk_at "st"
        walk_at "nw"
        intro p3 H3 N3
        walk_at "st"
        refine c_ixT (SqT.kp (e2.trans N3.kp) h0) rfl ?_
        walk_at "st"
        refine ⟨f, p, .ref l, fs, rfl, F2.kp N3.kp, G.once, gl, .inr ⟨l, ls, rfl, SqT.kp (e2.trans N3.kp) hl, fun g' H4 e4 F4 => ?_⟩⟩
        walk_at "st"
        walk_at "nw"
        intro p5 H5 N5
        exact q.yes rfl hb G (by simp only [refuseF, g, hf, Bool.false_eq_true, if_false]) ((k2.trans N3.kp).trans e4) (e4.at0 N3.at_) F4 (putR_perm G.once p ls) N5
  | remove p =>
    dsimp only [Action.word, Action.place]
    walk_at "dc"
    refine c_dninF F1.r ?_
    walk_at "st"
    cases ga : (at? fs p).isSome with
    | false =>
      have hf : (at? fs p).isNone = true := by rw [← Option.not_isSome, ga]; rfl
      walk_at "dc"
      walk_at "nw"
      intro p3 H3 N3
      walk_at "st"
      walk_at "nw"
      intro p4 H4 N4
      exact q.no rfl G F (by simp only [refuseF, hf, if_true]) (word_ne "missing" (by simp)) e1 N3 N4
    | true =>
      have hf : (at? fs p).isNone = false := by rw [← Option.not_isSome, ga]; rfl
      walk_at "dc"
      walk_at "nw"
      intro p3 H3 N3
      walk_at "st"
      refine ⟨f, p, .non, fs, rfl, F1.kp N3.kp, G.once, gl, .inl ⟨rfl, ga, fun g H4 e4 F4 => ?_⟩⟩
      walk_at "st"
      walk_at "nw"
      intro p5 H5 N5
      exact q.yes rfl hb G (by simp only [refuseF, hf, Bool.false_eq_true, if_false]) ((e1.trans N3.kp).trans e4) (e4.at0 N3.at_) F4 (List.Perm.refl _) N5
  | splice p old new =>
    dsimp only [Action.word, Action.place]
    obtain ⟨l, m, h0, hl, hm⟩ := ha1
    walk_at "dc"
    refine c_dninF F1.r ?_
    walk_at "st"
    cases ga : at? fs p with
    | none =>
      walk_at "dc"
      walk_at "nw"
      intro p3 H3 N3
      walk_at "st"
      walk_at "nw"
      intro p4 H4 N4
      exact q.no rfl G F (by simp only [refuseF, ga]) (word_ne "missing" (by simp)) e1 N3 N4
    | some lns =>
      walk_at "dc"
      exact ⟨f, l, m, p, old, new, fs, rfl, F1, G, hb, by rw [ga]; rfl, hl, hm, fun p v f' fs' H' e h1 h2 h3 h4 h5 => q p v f' fs' H' (e1.trans e) h1 h2 h3 h4 h5⟩
  | move p t =>
    dsimp only [Action.word, Action.place]
    obtain ⟨hp, ht⟩ : isPathS p = true ∧ isPathS t = true := by
      simp only [Action.bad] at hb
      split at hb
      · split at hb
        · exact ⟨‹_›, ‹_›⟩
        · cases hb
      · cases hb
    have tl := path_len ht
    have h0 : SqT K H1 a [.str "move", .str p, .str t] := ha1
    walk_at "dc"
    refine c_dninF F1.r ?_
    walk_at "st"
    cases ga : at? fs p with
    | none =>
      walk_at "dc"
      walk_at "nw"
      intro p3 H3 N3
      walk_at "st"
      walk_at "nw"
      intro p4 H4 N4
      exact q.no rfl G F (by simp only [refuseF, ga]) (word_ne "missing" (by simp)) e1 N3 N4
    | some lns =>
      have gw := G.without p
      walk_at "dc"
      refine ⟨f, p, .non, fs, rfl, F1, G.once, gl, .inl ⟨rfl, by rw [ga]; rfl, fun r H2 e2 Fr => ?_⟩⟩
      have k2 := e1.trans e2
      walk_at "st"
      refine c_ixT (SqT.kp e2 h0) rfl ?_
      walk_at "st"
      refine c_dinF Fr.r ?_
      walk_at "st"
      cases g3 : (at? (withoutF fs p) t).isSome with
      | true =>
        walk_at "dc"
        walk_at "nw"
        intro p3 H3 N3
        walk_at "st"
        walk_at "nw"
        intro p4 H4 N4
        exact q.no rfl G F (by simp only [refuseF, ga, g3, Bool.true_or, if_true]) (word_ne "blocked" (by simp)) k2 N3 N4
      | false =>
        walk_at "dc"
        refine c_ixT (SqT.kp e2 h0) rfl ?_
        walk_at "st"
        refine ⟨r, t, _, rfl, Fr, gw, by omega, path_ok ht, fun H3 e3 => ?_⟩
        have k3 := k2.trans e3
        walk_at "st"
        refine c_iteB (fun g => ?_) (fun g => ?_)
        · walk_at "st"
          walk_at "nw"
          intro p3 H4 N3
          walk_at "st"
          walk_at "nw"
          intro p4 H5 N4
          exact q.no rfl G F (by simp only [refuseF, ga, g3, g, Bool.false_or, if_true]) (word_ne "blocked" (by simp)) k3 N3 N4
        · walk_at "st"
          walk_at "nw"
          intro p3 H4 N3
          have k4 := k3.trans N3.kp
          walk_at "st"
          refine c_ixT (SqT.kp ((e2.trans e3).trans N3.kp) h0) rfl ?_
          walk_at "st"
          refine c_dgetR (F.kp k4).r ga fun la hla => ?_
          walk_at "st"
          refine ⟨r, t, .ref la, _, rfl, Fr.kp (e3.trans N3.kp), gw.once, gw.len, .inr ⟨la, lns, rfl, hla, fun g' H5 e5 F5 => ?_⟩⟩
          walk_at "st"
          walk_at "nw"
          intro p6 H6 N6
          refine q.yes rfl hb G (by simp only [refuseF, ga, g3, g, Bool.false_or, Bool.false_eq_true, if_false]) (k4.trans e5) (e5.at0 N3.at_) F5 ?_ N6
          simp only [laterF, ga, Option.getD_some]
          exact putR_perm gw.once t lns
  | _ => cases hq
theorem D__law_act (T : TX K mg) : DefAt P w K mg base CX0 "_law_act" 5 ["_law_table_here", "_law_action_here"] (spTbAct K) :=
  def_of T 45 70 sc__law_act bn__law_act (by walk_at "len") (b__law_act T)
def spTbRun (K : PySem.W.Frag) : Sp := fun vs H Q _ => ∃ (f a : Addr) (xs : List Action) (fs : List File), vs = [.ref f, .ref a] ∧ FilesAt K H f fs ∧ GoodP fs ∧ ActsL K H a xs ∧ xs.length ≤ 60 ∧ (∀ x ∈ xs, x.bad = none) ∧
  ∀ p j f' fs' H', Kp [] H H' → SqT K H' p [.ref j, .ref f'] → Dt K H' (.ref j) (jourD (runF (sortF fs) xs).1) → FilesAt K H' f' fs' → GoodP fs' → sortF fs' = (runF (sortF fs) xs).2 → Q (.ref p) H'
theorem sc__law_run : FnScope ["_law_table_here", "_law_actions", "_law_journal", "_law_action_here", "_law_told_here"] ["_law_table_here", "_law_actions"] (defScope s__law_run) := ⟨rfl, rfl, rfl, by decide +kernel, rfl, by decide +kernel, by decide +kernel⟩
theorem bn__law_run : BindN "_law_run" s__law_run ["_law_table_here", "_law_actions"] := fun _ _ _ _ _ _ us hl => match us, hl with | [_, _], _ => rfl
theorem b__law_run (T : TX K mg) : Body P w K mg base "_law_run" s__law_run ["_law_table_here", "_law_actions", "_law_journal", "_law_action_here", "_law_told_here"] 5 (spTbRun K) := by
  intro cdv A outer s H vs Q E h X hr
  obtain ⟨f, a, xs, fs, rfl, F, G, ha, hl, hb, q⟩ := h
  have D__law_act := D__law_act (P := P) (w := w) (base := base) T
  refine ⟨_, (pss_cons (ps_set (i := 2) sc__law_run.nd rfl (Or.inl rfl) (pe_lst pa_nil)) (pss_cons (ps_for PassesOwn.never rfl (pi_listU (K := K) (pv 1)) (pg_name (i := 3) sc__law_run.nd rfl (Or.inl rfl)) (pss_cons (ps_set (i := 4) sc__law_run.nd rfl (Or.inl rfl) (pe_callA D__law_act hr pass0 (pa_cons (pv 0) (pa_cons (pv 3) pa_nil)))) (pss_cons (ps_expr (pe_appendU (K := K) (pv 2) (pe_tup (pa_cons (pv 3) (pa_cons (pe_ix (ix_U (K := K)) (pv 4) pe_int (fun _ _ => rfl)) pa_nil))))) (pss_one (ps_set (i := 0) sc__law_run.nd rfl (Or.inl rfl) (pe_ix (ix_U (K := K)) (pv 4) pe_int (fun _ _ => rfl))))))) (pss_one (ps_ret (pe_tup (pa_cons (pe_callTy (cr_tuple (K := K)) rfl (T.free 28) (by decide +kernel) (pa_cons (pv 2) pa_nil)) (pa_cons (pv 0) pa_nil))))))), ?_⟩
  obtain ⟨as, hvs, hal, has⟩ := ha.ex
  walk_at "st"
  walk_at "nw"
  intro j0 H1 N1
  walk_at "st"
  have hv1 := SqL.kp N1.kp hvs
  first | refine ⟨a, rfl, ⟨_, hv1⟩, ?_⟩ | skip
  refine forQ (itn_l (ys := as) (u := V.ref)) (fun i σ H' => ∃ f' fs' ws v3 v4, σ = [some (.ref f'), some (.ref a), some (.ref j0), v3, v4] ∧ Kp [] H H' ∧ H' j0 = some (.lst ws) ∧ DtAll K H' ws ((runF (sortF fs) (xs.take i)).1.map entryD) ∧ ws.length ≤ i ∧ FilesAt K H' f' fs' ∧ GoodP fs' ∧ sortF fs' = (runF (sortF fs) (xs.take i)).2)
    ⟨f, fs, [], _, _, rfl, N1.kp, N1.at_, .nil, Nat.le_refl _, F.kp N1.kp, G, rfl⟩ (by rintro i σ H' ⟨_, _, _, _, _, _, e, _⟩; exact SqL.kp e hvs) ?_ ?_
  · rintro i y σ _ H2 hi ⟨f', fs', ws, v3, v4, rfl, e2, hj, hws, hwl, F2, G2, es⟩ ⟨rfl, ai, hai, rfl⟩
    obtain ⟨x, hx⟩ : ∃ x, xs[i]? = some x := ⟨_, List.getElem?_eq_getElem (by omega)⟩
    obtain ⟨ai', hai', hact⟩ := has i x hx
    rw [hai] at hai'
    obtain rfl := Option.some.inj hai'
    have hxb := hb x (List.mem_of_getElem? hx)
    have et : runF (sortF fs) (xs.take (i + 1)) = stepJ (runF (sortF fs) (xs.take i)) x := by rw [take_succ' hx, run_snoc]
    walk_at "st"
    refine ⟨f', ai, x, fs', rfl, F2, G2, hact.kp e2, hxb, fun p v f3 fs3 H3 e3 hp hv F3 G3 es3 => ?_⟩
    rw [es] at hv es3
    walk_at "st"
    first | (refine c_ixT hp rfl ?_; walk_at "st") | skip
    walk_at "nw"
    intro p4 H4 N4
    have hj4 := N4.keep (e3.at0 hj)
    refine ⟨j0, _, _, rfl, rfl, hj4, by rw [sizeLine_eq]; omega, ?_⟩
    walk_at "st"
    have kt : Kt H4 (upd H4 j0 (.lst (ws ++ [V.ref p4]))) := Kt.upd1 (NoT.lst hj4)
    have k4 : Kp [] H H4 := (e2.trans e3).trans N4.kp
    first | (refine c_ixT (SqT.kt kt (SqT.kp N4.kp hp)) rfl ?_; walk_at "st") | skip
    refine ⟨f3, fs3, ws ++ [V.ref p4], _, _, rfl, k4.fresh_mut N1.fr, upd_same, ?_, by rw [List.length_append, List.length_singleton]; omega, ?_, G3, by rw [et]; exact es3⟩
    · rw [et]
      unfold stepJ
      rw [List.map_append]
      refine dta_snoc (DtAll.kt ((e3.trans N4.kp).kt.trans kt) hws) (.tup (SqT.kt kt (SqT.of N4.at_)) (.cons (Dt.kt ((e3.trans N4.kp).kt.trans kt) (hact.kp e2).dt) (.cons (Dt.kt (N4.kp.kt.trans kt) hv) .nil)))
    · exact (F3.kp N4.kp).updL hj4
  · rintro σ H2 ⟨f', fs', ws, v3, v4, rfl, e2, hj, hws, hwl, F2, G2, es⟩
    rw [hal, List.take_length] at hws es
    walk_at "st"
    refine c_tupleL (SqL.of hj) fun p3 H3 N3 => ?_
    walk_at "st"
    walk_at "nw"
    intro p4 H4 N4
    exact q p4 p3 f' fs' H4 ((e2.trans N3.kp).trans N4.kp) (SqT.of N4.at_) (.tup (SqT.of (N4.keep N3.at_)) (DtAll.kp hws (N3.kp.trans N4.kp))) ((F2.kp N3.kp).kp N4.kp) G2 es
theorem D__law_run (T : TX K mg) : DefAt P w K mg base CX0 "_law_run" 6 ["_law_table_here", "_law_actions"] (spTbRun K) :=
  def_of T 47 72 sc__law_run bn__law_run (by walk_at "len") (b__law_run T)
def spTbLead (K : PySem.W.Frag) : Sp := fun vs H Q _ => ∃ (j f : Addr) (js : List Entry) (fs : List File), vs = [.ref j, .ref f] ∧ FilesAt K H f fs ∧ GoodP fs ∧ Dt K H (.ref j) (jourD js) ∧ js.length ≤ 60 ∧ (∀ e ∈ js, e.1.bad = none) ∧
  ∀ f' fs' H', Kp [] H H' → FilesAt K H' f' fs' → GoodP fs' → sortF fs' = leadF (sortF fs) (js.map Prod.fst) → Q (.ref f') H'
def spTbTable (K : PySem.W.Frag) : Sp := fun vs H Q _ => ∃ (b d : Addr) (m : Int), vs = [.ref b, .int m] ∧ Bx H b d ∧ 0 ≤ m ∧ m ≤ 100 ∧ ∀ f fs H', GoodP fs → FilesAt K H' f fs → Kp [b] H H' → Bx H' b d → Q (.ref f) H'
theorem sc__law_table : FnScope ["_law_box", "_law_most", "_law_table_here", "_law_turn"] ["_law_box", "_law_most"] (defScope s__law_table) := ⟨rfl, rfl, rfl, by decide +kernel, rfl, by decide +kernel, by decide +kernel⟩
theorem bn__law_table : BindN "_law_table" s__law_table ["_law_box", "_law_most"] := fun _ _ _ _ _ _ us hl => match us, hl with | [_, _], _ => rfl
theorem b__law_table (T : TX K mg) : Body P w K mg base "_law_table" s__law_table ["_law_box", "_law_most", "_law_table_here", "_law_turn"] 5 (spTbTable K) := by
  intro cdv A outer s H vs Q E h X hr
  obtain ⟨b, d, m, rfl, B, m0, m1, q⟩ := h
  have D__law_act := D__law_act (P := P) (w := w) (base := base) T; have D__law_draw := D__law_draw (P := P) (w := w) (base := base) T; have D__law_lines := D__law_lines (P := P) (w := w) (base := base) T; have D__law_path := D__law_path (P := P) (w := w) (base := base) T
  refine ⟨_, (pss_cons (ps_set (i := 2) sc__law_table.nd rfl (Or.inl rfl) pe_dnewK) (pss_cons (ps_for PassesOwn.never rfl (pi_range1 rfl (T.free 27) (pa_cons (pe_callA D__law_draw hr pass0 (pa_cons (pv 0) (pa_cons (pe_op (op_addU (K := K)) (pv 1) pe_int) pa_nil))) pa_nil)) (pg_name (i := 3) sc__law_table.nd rfl (Or.inl rfl)) (pss_one (ps_set (i := 2) sc__law_table.nd rfl (Or.inl rfl) (pe_ix (ix_U (K := K)) (pe_callA D__law_act hr pass0 (pa_cons (pv 2) (pa_cons (pe_tup (pa_cons pe_str (pa_cons (pe_callA D__law_path hr pass0 (pa_cons (pv 0) pa_nil)) (pa_cons (pe_callA D__law_lines hr pass0 (pa_cons (pv 0) (pa_cons pe_int pa_nil))) pa_nil)))) pa_nil))) pe_int (fun _ _ => rfl))))) (pss_one (ps_ret (pv 2))))), ?_⟩
  walk_at "st"
  refine c_dnew fun f0 H1 N1 => ?_
  walk_at "st"
  refine ⟨b, d, m + 1, rfl, B.nw N1, by omega, fun n H2 n0 n1 e2 B2 => ?_⟩
  walk_at "st"
  have F1 : FilesAt K H1 f0 [] := FilesAt.nil N1.at_
  have F2 := F1.kb (B.nw N1) e2
  refine forR (fun i σ H' => ∃ f fs v3, σ = [some (.ref b), some (.int m), some (.ref f), v3] ∧ FilesAt K H' f fs ∧ GoodP fs ∧ Kp [b] H H' ∧ Bx H' b d) ⟨f0, [], _, rfl, F2, ⟨by simp, .nil, by simp, by simp, by simp⟩, (N1.kp (ms := [b])).trans e2, B2⟩ ?_ ?_
  · rintro i σ H3 hi ⟨f, fs, v3, rfl, F3, G3, e3, B3⟩
    walk_at "st"
    refine ⟨b, d, rfl, B3, fun z H4 hz e4 B4 => ?_⟩
    walk_at "st"
    refine ⟨b, d, 4, rfl, B4, by decide, by decide, fun la lns H5 hls _ e5 B5 hla => ?_⟩
    walk_at "st"
    walk_at "nw"
    intro p6 H6 N6
    have F6 := ((F3.kb B3 e4).kb B4 e5).kp (N6.kp (ms := []))
    have k6 := ((e3.trans e4).trans e5).trans (N6.kp (ms := [b]))
    walk_at "st"
    refine ⟨f, p6, .write z lns, fs, rfl, F6, G3, ⟨la, SqT.of N6.at_, SqT.kp N6.kp hla⟩, by simp only [Action.bad, hz, hls, if_true], fun p v f' fs' H7 e7 hp hv F7 G7 es => ?_⟩
    walk_at "st"
    first | (refine c_ixT hp rfl ?_; walk_at "st") | skip
    exact ⟨f', fs', _, rfl, F7, G7, k6.trans e7.mono, (B5.nw N6).kp0 e7⟩
  · rintro σ H3 ⟨f, fs, v3, rfl, F3, G3, e3, B3⟩
    walk_at "st"
    exact q f fs H3 G3 F3 e3 B3
theorem D__law_table (T : TX K mg) : DefAt P w K mg base CX0 "_law_table" 6 ["_law_box", "_law_most"] (spTbTable K) :=
  def_of T 37 62 sc__law_table bn__law_table (by walk_at "len") (b__law_table T)
end
end K36



namespace K36
open PySem L2 Sa
local macro_rules | `(tactic| walk_at "s1") => `(tactic| first | (with_reducible apply c_dgetK))
local macro_rules | `(tactic| walk_at "s1") => `(tactic| (with_reducible apply c_raiseO))
def seF (a1 a2 a3 a4 a5 : V) : List (Str × V) := ([("name", a1), ("base", a2), ("journal", a3), ("refusals", a4), ("state", a5)] : List (Str × V))
section
variable {a1 a2 a3 a4 a5 x v : V}
theorem se_get1 : (seF a1 a2 a3 a4 a5).lookup ("name" : Str) = some a1 := by kernel_rfl
theorem se_put1 : putF "name" x (seF a1 a2 a3 a4 a5) = seF x a2 a3 a4 a5 := by kernel_rfl
theorem se_ini1 : putF "name" a1 ([] : List (Str × V)) = ([("name", a1)] : List (Str × V)) := by kernel_rfl
theorem se_get2 : (seF a1 a2 a3 a4 a5).lookup ("base" : Str) = some a2 := by kernel_rfl
theorem se_put2 : putF "base" x (seF a1 a2 a3 a4 a5) = seF a1 x a3 a4 a5 := by kernel_rfl
theorem se_ini2 : putF "base" a2 ([("name", a1)] : List (Str × V)) = ([("name", a1), ("base", a2)] : List (Str × V)) := by kernel_rfl
theorem se_get3 : (seF a1 a2 a3 a4 a5).lookup ("journal" : Str) = some a3 := by kernel_rfl
theorem se_put3 : putF "journal" x (seF a1 a2 a3 a4 a5) = seF a1 a2 x a4 a5 := by kernel_rfl
theorem se_ini3 : putF "journal" a3 ([("name", a1), ("base", a2)] : List (Str × V)) = ([("name", a1), ("base", a2), ("journal", a3)] : List (Str × V)) := by kernel_rfl
theorem se_get4 : (seF a1 a2 a3 a4 a5).lookup ("refusals" : Str) = some a4 := by kernel_rfl
theorem se_put4 : putF "refusals" x (seF a1 a2 a3 a4 a5) = seF a1 a2 a3 x a5 := by kernel_rfl
theorem se_ini4 : putF "refusals" a4 ([("name", a1), ("base", a2), ("journal", a3)] : List (Str × V)) = ([("name", a1), ("base", a2), ("journal", a3), ("refusals", a4)] : List (Str × V)) := by kernel_rfl
theorem se_get5 : (seF a1 a2 a3 a4 a5).lookup ("state" : Str) = some a5 := by kernel_rfl
theorem se_put5 : putF "state" x (seF a1 a2 a3 a4 a5) = seF a1 a2 a3 a4 x := by kernel_rfl
theorem se_ini5 : putF "state" a5 ([("name", a1), ("base", a2), ("journal", a3), ("refusals", a4)] : List (Str × V)) = seF a1 a2 a3 a4 a5 := by kernel_rfl
end
section
variable {K : PySem.W.Frag} {mg : Str → Option Value}
theorem C_Session (T : TX K mg) : ClsAt K mg "Session" := ⟨T.glo 102, He.cls_ok (T.fact 149)⟩
theorem Mk_Session (T : TX K mg) : Mk K (He.ga K "Session") (He.ma K (He.ga K "Session") "__init__") := He.mkr_ok (T.fact 150)
theorem se_N1 (T : TX K mg) : NoAttr K (He.ga K "Session") "name" := He.noat_ok (T.fact 151)
theorem se_N2 (T : TX K mg) : NoAttr K (He.ga K "Session") "base" := He.noat_ok (T.fact 152)
theorem se_N3 (T : TX K mg) : NoAttr K (He.ga K "Session") "journal" := He.noat_ok (T.fact 153)
theorem se_N4 (T : TX K mg) : NoAttr K (He.ga K "Session") "refusals" := He.noat_ok (T.fact 154)
theorem se_N5 (T : TX K mg) : NoAttr K (He.ga K "Session") "state" := He.noat_ok (T.fact 155)
variable {H : Hp} {Q : VK} {R : Hp → Prop} {x dx : Addr} {a1 a2 a3 a4 a5 v : V}
theorem se_g1 (T : TX K mg) (h : H x = some (.ins (He.ga K "Session") dx (seF a1 a2 a3 a4 a5))) (q : Q a1 H) : FldK K "name" (.ref x) H Q := c_fldAt h (C_Session T).cls (se_N1 T) se_get1 q
theorem se_p1 (T : TX K mg) (h : H x = some (.ins (He.ga K "Session") dx (seF a1 a2 a3 a4 a5))) (q : R (upd H x (.ins (He.ga K "Session") dx (seF v a2 a3 a4 a5)))) : SetFldK K "name" (.ref x) v H R := c_setFAt h (C_Session T).cls (se_N1 T) (by show 5 < 1000; decide) (by rw [se_put1]; exact q)
theorem se_i1 (T : TX K mg) (h : H x = some (.ins (He.ga K "Session") dx ([] : List (Str × V)))) (q : R (upd H x (.ins (He.ga K "Session") dx ([("name", v)] : List (Str × V))))) : SetFldK K "name" (.ref x) v H R := c_setFAt h (C_Session T).cls (se_N1 T) (by show 0 < 1000; decide) (by rw [se_ini1]; exact q)
theorem se_g2 (T : TX K mg) (h : H x = some (.ins (He.ga K "Session") dx (seF a1 a2 a3 a4 a5))) (q : Q a2 H) : FldK K "base" (.ref x) H Q := c_fldAt h (C_Session T).cls (se_N2 T) se_get2 q
theorem se_p2 (T : TX K mg) (h : H x = some (.ins (He.ga K "Session") dx (seF a1 a2 a3 a4 a5))) (q : R (upd H x (.ins (He.ga K "Session") dx (seF a1 v a3 a4 a5)))) : SetFldK K "base" (.ref x) v H R := c_setFAt h (C_Session T).cls (se_N2 T) (by show 5 < 1000; decide) (by rw [se_put2]; exact q)
theorem se_i2 (T : TX K mg) (h : H x = some (.ins (He.ga K "Session") dx ([("name", a1)] : List (Str × V)))) (q : R (upd H x (.ins (He.ga K "Session") dx ([("name", a1), ("base", v)] : List (Str × V))))) : SetFldK K "base" (.ref x) v H R := c_setFAt h (C_Session T).cls (se_N2 T) (by show 1 < 1000; decide) (by rw [se_ini2]; exact q)
theorem se_g3 (T : TX K mg) (h : H x = some (.ins (He.ga K "Session") dx (seF a1 a2 a3 a4 a5))) (q : Q a3 H) : FldK K "journal" (.ref x) H Q := c_fldAt h (C_Session T).cls (se_N3 T) se_get3 q
theorem se_p3 (T : TX K mg) (h : H x = some (.ins (He.ga K "Session") dx (seF a1 a2 a3 a4 a5))) (q : R (upd H x (.ins (He.ga K "Session") dx (seF a1 a2 v a4 a5)))) : SetFldK K "journal" (.ref x) v H R := c_setFAt h (C_Session T).cls (se_N3 T) (by show 5 < 1000; decide) (by rw [se_put3]; exact q)
theorem se_i3 (T : TX K mg) (h : H x = some (.ins (He.ga K "Session") dx ([("name", a1), ("base", a2)] : List (Str × V)))) (q : R (upd H x (.ins (He.ga K "Session") dx ([("name", a1), ("base", a2), ("journal", v)] : List (Str × V))))) : SetFldK K "journal" (.ref x) v H R := c_setFAt h (C_Session T).cls (se_N3 T) (by show 2 < 1000; decide) (by rw [se_ini3]; exact q)
theorem se_g4 (T : TX K mg) (h : H x = some (.ins (He.ga K "Session") dx (seF a1 a2 a3 a4 a5))) (q : Q a4 H) : FldK K "refusals" (.ref x) H Q := c_fldAt h (C_Session T).cls (se_N4 T) se_get4 q
theorem se_p4 (T : TX K mg) (h : H x = some (.ins (He.ga K "Session") dx (seF a1 a2 a3 a4 a5))) (q : R (upd H x (.ins (He.ga K "Session") dx (seF a1 a2 a3 v a5)))) : SetFldK K "refusals" (.ref x) v H R := c_setFAt h (C_Session T).cls (se_N4 T) (by show 5 < 1000; decide) (by rw [se_put4]; exact q)
theorem se_i4 (T : TX K mg) (h : H x = some (.ins (He.ga K "Session") dx ([("name", a1), ("base", a2), ("journal", a3)] : List (Str × V)))) (q : R (upd H x (.ins (He.ga K "Session") dx ([("name", a1), ("base", a2), ("journal", a3), ("refusals", v)] : List (Str × V))))) : SetFldK K "refusals" (.ref x) v H R := c_setFAt h (C_Session T).cls (se_N4 T) (by show 3 < 1000; decide) (by rw [se_ini4]; exact q)
theorem se_g5 (T : TX K mg) (h : H x = some (.ins (He.ga K "Session") dx (seF a1 a2 a3 a4 a5))) (q : Q a5 H) : FldK K "state" (.ref x) H Q := c_fldAt h (C_Session T).cls (se_N5 T) se_get5 q
theorem se_p5 (T : TX K mg) (h : H x = some (.ins (He.ga K "Session") dx (seF a1 a2 a3 a4 a5))) (q : R (upd H x (.ins (He.ga K "Session") dx (seF a1 a2 a3 a4 v)))) : SetFldK K "state" (.ref x) v H R := c_setFAt h (C_Session T).cls (se_N5 T) (by show 5 < 1000; decide) (by rw [se_put5]; exact q)
theorem se_i5 (T : TX K mg) (h : H x = some (.ins (He.ga K "Session") dx ([("name", a1), ("base", a2), ("journal", a3), ("refusals", a4)] : List (Str × V)))) (q : R (upd H x (.ins (He.ga K "Session") dx (seF a1 a2 a3 a4 v)))) : SetFldK K "state" (.ref x) v H R := c_setFAt h (C_Session T).cls (se_N5 T) (by show 4 < 1000; decide) (by rw [se_ini5]; exact q)
theorem se_no {m : Str} {a1 a2 a3 a4 a5 : V} (h : m ∉ (["name", "base", "journal", "refusals", "state"] : List Str)) : (seF a1 a2 a3 a4 a5).lookup m = none := by
  unfold seF
  have n : ∀ z ∈ (["name", "base", "journal", "refusals", "state"] : List Str), (m == z) = false := fun z hz => by
    rw [beq_eq_false_iff_ne]
    exact fun e => h (e ▸ hz)
  simp only [List.lookup, n "name" (by simp), n "base" (by simp), n "journal" (by simp), n "refusals" (by simp), n "state" (by simp)]
theorem se_r {m : Str} (h : H x = some (.ins (He.ga K "Session") dx (seF a1 a2 a3 a4 a5))) (hm : m ∉ (["name", "base", "journal", "refusals", "state"] : List Str)) (q : R H) : RecvK K "Session" m (.ref x) H R := c_recv h (se_no hm) q
end
def liF (a1 a2 a3 : V) : List (Str × V) := ([("sessions", a1), ("is_protected", a2), ("_events", a3)] : List (Str × V))
section
variable {a1 a2 a3 x v : V}
theorem li_get1 : (liF a1 a2 a3).lookup ("sessions" : Str) = some a1 := by kernel_rfl
theorem li_put1 : putF "sessions" x (liF a1 a2 a3) = liF x a2 a3 := by kernel_rfl
theorem li_ini1 : putF "sessions" a1 ([] : List (Str × V)) = ([("sessions", a1)] : List (Str × V)) := by kernel_rfl
theorem li_get2 : (liF a1 a2 a3).lookup ("is_protected" : Str) = some a2 := by kernel_rfl
theorem li_put2 : putF "is_protected" x (liF a1 a2 a3) = liF a1 x a3 := by kernel_rfl
theorem li_ini2 : putF "is_protected" a2 ([("sessions", a1)] : List (Str × V)) = ([("sessions", a1), ("is_protected", a2)] : List (Str × V)) := by kernel_rfl
theorem li_get3 : (liF a1 a2 a3).lookup ("_events" : Str) = some a3 := by kernel_rfl
theorem li_put3 : putF "_events" x (liF a1 a2 a3) = liF a1 a2 x := by kernel_rfl
theorem li_ini3 : putF "_events" a3 ([("sessions", a1), ("is_protected", a2)] : List (Str × V)) = liF a1 a2 a3 := by kernel_rfl
end
section
variable {K : PySem.W.Frag} {mg : Str → Option Value}
theorem C_Line (T : TX K mg) : ClsAt K mg "Line" := ⟨T.glo 104, He.cls_ok (T.fact 156)⟩
theorem Mk_Line (T : TX K mg) : Mk K (He.ga K "Line") (He.ma K (He.ga K "Line") "__init__") := He.mkr_ok (T.fact 157)
theorem li_N1 (T : TX K mg) : NoAttr K (He.ga K "Line") "sessions" := He.noat_ok (T.fact 158)
theorem li_N2 (T : TX K mg) : NoAttr K (He.ga K "Line") "is_protected" := He.noat_ok (T.fact 159)
theorem li_N3 (T : TX K mg) : NoAttr K (He.ga K "Line") "_events" := He.noat_ok (T.fact 160)
variable {H : Hp} {Q : VK} {R : Hp → Prop} {x dx : Addr} {a1 a2 a3 v : V}
theorem li_g1 (T : TX K mg) (h : H x = some (.ins (He.ga K "Line") dx (liF a1 a2 a3))) (q : Q a1 H) : FldK K "sessions" (.ref x) H Q := c_fldAt h (C_Line T).cls (li_N1 T) li_get1 q
theorem li_p1 (T : TX K mg) (h : H x = some (.ins (He.ga K "Line") dx (liF a1 a2 a3))) (q : R (upd H x (.ins (He.ga K "Line") dx (liF v a2 a3)))) : SetFldK K "sessions" (.ref x) v H R := c_setFAt h (C_Line T).cls (li_N1 T) (by show 3 < 1000; decide) (by rw [li_put1]; exact q)
theorem li_i1 (T : TX K mg) (h : H x = some (.ins (He.ga K "Line") dx ([] : List (Str × V)))) (q : R (upd H x (.ins (He.ga K "Line") dx ([("sessions", v)] : List (Str × V))))) : SetFldK K "sessions" (.ref x) v H R := c_setFAt h (C_Line T).cls (li_N1 T) (by show 0 < 1000; decide) (by rw [li_ini1]; exact q)
theorem li_g2 (T : TX K mg) (h : H x = some (.ins (He.ga K "Line") dx (liF a1 a2 a3))) (q : Q a2 H) : FldK K "is_protected" (.ref x) H Q := c_fldAt h (C_Line T).cls (li_N2 T) li_get2 q
theorem li_p2 (T : TX K mg) (h : H x = some (.ins (He.ga K "Line") dx (liF a1 a2 a3))) (q : R (upd H x (.ins (He.ga K "Line") dx (liF a1 v a3)))) : SetFldK K "is_protected" (.ref x) v H R := c_setFAt h (C_Line T).cls (li_N2 T) (by show 3 < 1000; decide) (by rw [li_put2]; exact q)
theorem li_i2 (T : TX K mg) (h : H x = some (.ins (He.ga K "Line") dx ([("sessions", a1)] : List (Str × V)))) (q : R (upd H x (.ins (He.ga K "Line") dx ([("sessions", a1), ("is_protected", v)] : List (Str × V))))) : SetFldK K "is_protected" (.ref x) v H R := c_setFAt h (C_Line T).cls (li_N2 T) (by show 1 < 1000; decide) (by rw [li_ini2]; exact q)
theorem li_g3 (T : TX K mg) (h : H x = some (.ins (He.ga K "Line") dx (liF a1 a2 a3))) (q : Q a3 H) : FldK K "_events" (.ref x) H Q := c_fldAt h (C_Line T).cls (li_N3 T) li_get3 q
theorem li_p3 (T : TX K mg) (h : H x = some (.ins (He.ga K "Line") dx (liF a1 a2 a3))) (q : R (upd H x (.ins (He.ga K "Line") dx (liF a1 a2 v)))) : SetFldK K "_events" (.ref x) v H R := c_setFAt h (C_Line T).cls (li_N3 T) (by show 3 < 1000; decide) (by rw [li_put3]; exact q)
theorem li_i3 (T : TX K mg) (h : H x = some (.ins (He.ga K "Line") dx ([("sessions", a1), ("is_protected", a2)] : List (Str × V)))) (q : R (upd H x (.ins (He.ga K "Line") dx (liF a1 a2 v)))) : SetFldK K "_events" (.ref x) v H R := c_setFAt h (C_Line T).cls (li_N3 T) (by show 2 < 1000; decide) (by rw [li_ini3]; exact q)
theorem li_no {m : Str} {a1 a2 a3 : V} (h : m ∉ (["sessions", "is_protected", "_events"] : List Str)) : (liF a1 a2 a3).lookup m = none := by
  unfold liF
  have n : ∀ z ∈ (["sessions", "is_protected", "_events"] : List Str), (m == z) = false := fun z hz => by
    rw [beq_eq_false_iff_ne]
    exact fun e => h (e ▸ hz)
  simp only [List.lookup, n "sessions" (by simp), n "is_protected" (by simp), n "_events" (by simp)]
theorem li_r {m : Str} (h : H x = some (.ins (He.ga K "Line") dx (liF a1 a2 a3))) (hm : m ∉ (["sessions", "is_protected", "_events"] : List Str)) (q : R H) : RecvK K "Line" m (.ref x) H R := c_recv h (li_no hm) q
end
def trF (a1 a2 a3 a4 a5 a6 a7 a8 a9 : V) : List (Str × V) := ([("_patience", a1), ("_allowance", a2), ("_trees", a3), ("_entries", a4), ("_sessions", a5), ("_line", a6), ("_checks", a7), ("_verdicts", a8), ("_runs", a9)] : List (Str × V))
section
variable {a1 a2 a3 a4 a5 a6 a7 a8 a9 x v : V}
theorem tr_get1 : (trF a1 a2 a3 a4 a5 a6 a7 a8 a9).lookup ("_patience" : Str) = some a1 := by kernel_rfl
theorem tr_put1 : putF "_patience" x (trF a1 a2 a3 a4 a5 a6 a7 a8 a9) = trF x a2 a3 a4 a5 a6 a7 a8 a9 := by kernel_rfl
theorem tr_ini1 : putF "_patience" a1 ([] : List (Str × V)) = ([("_patience", a1)] : List (Str × V)) := by kernel_rfl
theorem tr_get2 : (trF a1 a2 a3 a4 a5 a6 a7 a8 a9).lookup ("_allowance" : Str) = some a2 := by kernel_rfl
theorem tr_put2 : putF "_allowance" x (trF a1 a2 a3 a4 a5 a6 a7 a8 a9) = trF a1 x a3 a4 a5 a6 a7 a8 a9 := by kernel_rfl
theorem tr_ini2 : putF "_allowance" a2 ([("_patience", a1)] : List (Str × V)) = ([("_patience", a1), ("_allowance", a2)] : List (Str × V)) := by kernel_rfl
theorem tr_get3 : (trF a1 a2 a3 a4 a5 a6 a7 a8 a9).lookup ("_trees" : Str) = some a3 := by kernel_rfl
theorem tr_put3 : putF "_trees" x (trF a1 a2 a3 a4 a5 a6 a7 a8 a9) = trF a1 a2 x a4 a5 a6 a7 a8 a9 := by kernel_rfl
theorem tr_ini3 : putF "_trees" a3 ([("_patience", a1), ("_allowance", a2)] : List (Str × V)) = ([("_patience", a1), ("_allowance", a2), ("_trees", a3)] : List (Str × V)) := by kernel_rfl
theorem tr_get4 : (trF a1 a2 a3 a4 a5 a6 a7 a8 a9).lookup ("_entries" : Str) = some a4 := by kernel_rfl
theorem tr_put4 : putF "_entries" x (trF a1 a2 a3 a4 a5 a6 a7 a8 a9) = trF a1 a2 a3 x a5 a6 a7 a8 a9 := by kernel_rfl
theorem tr_ini4 : putF "_entries" a4 ([("_patience", a1), ("_allowance", a2), ("_trees", a3)] : List (Str × V)) = ([("_patience", a1), ("_allowance", a2), ("_trees", a3), ("_entries", a4)] : List (Str × V)) := by kernel_rfl
theorem tr_get5 : (trF a1 a2 a3 a4 a5 a6 a7 a8 a9).lookup ("_sessions" : Str) = some a5 := by kernel_rfl
theorem tr_put5 : putF "_sessions" x (trF a1 a2 a3 a4 a5 a6 a7 a8 a9) = trF a1 a2 a3 a4 x a6 a7 a8 a9 := by kernel_rfl
theorem tr_ini5 : putF "_sessions" a5 ([("_patience", a1), ("_allowance", a2), ("_trees", a3), ("_entries", a4)] : List (Str × V)) = ([("_patience", a1), ("_allowance", a2), ("_trees", a3), ("_entries", a4), ("_sessions", a5)] : List (Str × V)) := by kernel_rfl
theorem tr_get6 : (trF a1 a2 a3 a4 a5 a6 a7 a8 a9).lookup ("_line" : Str) = some a6 := by kernel_rfl
theorem tr_put6 : putF "_line" x (trF a1 a2 a3 a4 a5 a6 a7 a8 a9) = trF a1 a2 a3 a4 a5 x a7 a8 a9 := by kernel_rfl
theorem tr_ini6 : putF "_line" a6 ([("_patience", a1), ("_allowance", a2), ("_trees", a3), ("_entries", a4), ("_sessions", a5)] : List (Str × V)) = ([("_patience", a1), ("_allowance", a2), ("_trees", a3), ("_entries", a4), ("_sessions", a5), ("_line", a6)] : List (Str × V)) := by kernel_rfl
theorem tr_get7 : (trF a1 a2 a3 a4 a5 a6 a7 a8 a9).lookup ("_checks" : Str) = some a7 := by kernel_rfl
theorem tr_put7 : putF "_checks" x (trF a1 a2 a3 a4 a5 a6 a7 a8 a9) = trF a1 a2 a3 a4 a5 a6 x a8 a9 := by kernel_rfl
theorem tr_ini7 : putF "_checks" a7 ([("_patience", a1), ("_allowance", a2), ("_trees", a3), ("_entries", a4), ("_sessions", a5), ("_line", a6)] : List (Str × V)) = ([("_patience", a1), ("_allowance", a2), ("_trees", a3), ("_entries", a4), ("_sessions", a5), ("_line", a6), ("_checks", a7)] : List (Str × V)) := by kernel_rfl
theorem tr_get8 : (trF a1 a2 a3 a4 a5 a6 a7 a8 a9).lookup ("_verdicts" : Str) = some a8 := by kernel_rfl
theorem tr_put8 : putF "_verdicts" x (trF a1 a2 a3 a4 a5 a6 a7 a8 a9) = trF a1 a2 a3 a4 a5 a6 a7 x a9 := by kernel_rfl
theorem tr_ini8 : putF "_verdicts" a8 ([("_patience", a1), ("_allowance", a2), ("_trees", a3), ("_entries", a4), ("_sessions", a5), ("_line", a6), ("_checks", a7)] : List (Str × V)) = ([("_patience", a1), ("_allowance", a2), ("_trees", a3), ("_entries", a4), ("_sessions", a5), ("_line", a6), ("_checks", a7), ("_verdicts", a8)] : List (Str × V)) := by kernel_rfl
theorem tr_get9 : (trF a1 a2 a3 a4 a5 a6 a7 a8 a9).lookup ("_runs" : Str) = some a9 := by kernel_rfl
theorem tr_put9 : putF "_runs" x (trF a1 a2 a3 a4 a5 a6 a7 a8 a9) = trF a1 a2 a3 a4 a5 a6 a7 a8 x := by kernel_rfl
theorem tr_ini9 : putF "_runs" a9 ([("_patience", a1), ("_allowance", a2), ("_trees", a3), ("_entries", a4), ("_sessions", a5), ("_line", a6), ("_checks", a7), ("_verdicts", a8)] : List (Str × V)) = trF a1 a2 a3 a4 a5 a6 a7 a8 a9 := by kernel_rfl
end
section
variable {K : PySem.W.Frag} {mg : Str → Option Value}
theorem C_Trunk (T : TX K mg) : ClsAt K mg "Trunk" := ⟨T.glo 77, He.cls_ok (T.fact 161)⟩
theorem Mk_Trunk (T : TX K mg) : Mk K (He.ga K "Trunk") (He.ma K (He.ga K "Trunk") "__init__") := He.mkr_ok (T.fact 162)
theorem tr_N1 (T : TX K mg) : NoAttr K (He.ga K "Trunk") "_patience" := He.noat_ok (T.fact 163)
theorem tr_N2 (T : TX K mg) : NoAttr K (He.ga K "Trunk") "_allowance" := He.noat_ok (T.fact 164)
theorem tr_N3 (T : TX K mg) : NoAttr K (He.ga K "Trunk") "_trees" := He.noat_ok (T.fact 165)
theorem tr_N4 (T : TX K mg) : NoAttr K (He.ga K "Trunk") "_entries" := He.noat_ok (T.fact 166)
theorem tr_N5 (T : TX K mg) : NoAttr K (He.ga K "Trunk") "_sessions" := He.noat_ok (T.fact 167)
theorem tr_N6 (T : TX K mg) : NoAttr K (He.ga K "Trunk") "_line" := He.noat_ok (T.fact 168)
theorem tr_N7 (T : TX K mg) : NoAttr K (He.ga K "Trunk") "_checks" := He.noat_ok (T.fact 169)
theorem tr_N8 (T : TX K mg) : NoAttr K (He.ga K "Trunk") "_verdicts" := He.noat_ok (T.fact 170)
theorem tr_N9 (T : TX K mg) : NoAttr K (He.ga K "Trunk") "_runs" := He.noat_ok (T.fact 171)
variable {H : Hp} {Q : VK} {R : Hp → Prop} {x dx : Addr} {a1 a2 a3 a4 a5 a6 a7 a8 a9 v : V}
theorem tr_g1 (T : TX K mg) (h : H x = some (.ins (He.ga K "Trunk") dx (trF a1 a2 a3 a4 a5 a6 a7 a8 a9))) (q : Q a1 H) : FldK K "_patience" (.ref x) H Q := c_fldAt h (C_Trunk T).cls (tr_N1 T) tr_get1 q
theorem tr_p1 (T : TX K mg) (h : H x = some (.ins (He.ga K "Trunk") dx (trF a1 a2 a3 a4 a5 a6 a7 a8 a9))) (q : R (upd H x (.ins (He.ga K "Trunk") dx (trF v a2 a3 a4 a5 a6 a7 a8 a9)))) : SetFldK K "_patience" (.ref x) v H R := c_setFAt h (C_Trunk T).cls (tr_N1 T) (by show 9 < 1000; decide) (by rw [tr_put1]; exact q)
theorem tr_i1 (T : TX K mg) (h : H x = some (.ins (He.ga K "Trunk") dx ([] : List (Str × V)))) (q : R (upd H x (.ins (He.ga K "Trunk") dx ([("_patience", v)] : List (Str × V))))) : SetFldK K "_patience" (.ref x) v H R := c_setFAt h (C_Trunk T).cls (tr_N1 T) (by show 0 < 1000; decide) (by rw [tr_ini1]; exact q)
theorem tr_g2 (T : TX K mg) (h : H x = some (.ins (He.ga K "Trunk") dx (trF a1 a2 a3 a4 a5 a6 a7 a8 a9))) (q : Q a2 H) : FldK K "_allowance" (.ref x) H Q := c_fldAt h (C_Trunk T).cls (tr_N2 T) tr_get2 q
theorem tr_p2 (T : TX K mg) (h : H x = some (.ins (He.ga K "Trunk") dx (trF a1 a2 a3 a4 a5 a6 a7 a8 a9))) (q : R (upd H x (.ins (He.ga K "Trunk") dx (trF a1 v a3 a4 a5 a6 a7 a8 a9)))) : SetFldK K "_allowance" (.ref x) v H R := c_setFAt h (C_Trunk T).cls (tr_N2 T) (by show 9 < 1000; decide) (by rw [tr_put2]; exact q)
theorem tr_i2 (T : TX K mg) (h : H x = some (.ins (He.ga K "Trunk") dx ([("_patience", a1)] : List (Str × V)))) (q : R (upd H x (.ins (He.ga K "Trunk") dx ([("_patience", a1), ("_allowance", v)] : List (Str × V))))) : SetFldK K "_allowance" (.ref x) v H R := c_setFAt h (C_Trunk T).cls (tr_N2 T) (by show 1 < 1000; decide) (by rw [tr_ini2]; exact q)
theorem tr_g3 (T : TX K mg) (h : H x = some (.ins (He.ga K "Trunk") dx (trF a1 a2 a3 a4 a5 a6 a7 a8 a9))) (q : Q a3 H) : FldK K "_trees" (.ref x) H Q := c_fldAt h (C_Trunk T).cls (tr_N3 T) tr_get3 q
theorem tr_p3 (T : TX K mg) (h : H x = some (.ins (He.ga K "Trunk") dx (trF a1 a2 a3 a4 a5 a6 a7 a8 a9))) (q : R (upd H x (.ins (He.ga K "Trunk") dx (trF a1 a2 v a4 a5 a6 a7 a8 a9)))) : SetFldK K "_trees" (.ref x) v H R := c_setFAt h (C_Trunk T).cls (tr_N3 T) (by show 9 < 1000; decide) (by rw [tr_put3]; exact q)
theorem tr_i3 (T : TX K mg) (h : H x = some (.ins (He.ga K "Trunk") dx ([("_patience", a1), ("_allowance", a2)] : List (Str × V)))) (q : R (upd H x (.ins (He.ga K "Trunk") dx ([("_patience", a1), ("_allowance", a2), ("_trees", v)] : List (Str × V))))) : SetFldK K "_trees" (.ref x) v H R := c_setFAt h (C_Trunk T).cls (tr_N3 T) (by show 2 < 1000; decide) (by rw [tr_ini3]; exact q)
theorem tr_g4 (T : TX K mg) (h : H x = some (.ins (He.ga K "Trunk") dx (trF a1 a2 a3 a4 a5 a6 a7 a8 a9))) (q : Q a4 H) : FldK K "_entries" (.ref x) H Q := c_fldAt h (C_Trunk T).cls (tr_N4 T) tr_get4 q
theorem tr_p4 (T : TX K mg) (h : H x = some (.ins (He.ga K "Trunk") dx (trF a1 a2 a3 a4 a5 a6 a7 a8 a9))) (q : R (upd H x (.ins (He.ga K "Trunk") dx (trF a1 a2 a3 v a5 a6 a7 a8 a9)))) : SetFldK K "_entries" (.ref x) v H R := c_setFAt h (C_Trunk T).cls (tr_N4 T) (by show 9 < 1000; decide) (by rw [tr_put4]; exact q)
theorem tr_i4 (T : TX K mg) (h : H x = some (.ins (He.ga K "Trunk") dx ([("_patience", a1), ("_allowance", a2), ("_trees", a3)] : List (Str × V)))) (q : R (upd H x (.ins (He.ga K "Trunk") dx ([("_patience", a1), ("_allowance", a2), ("_trees", a3), ("_entries", v)] : List (Str × V))))) : SetFldK K "_entries" (.ref x) v H R := c_setFAt h (C_Trunk T).cls (tr_N4 T) (by show 3 < 1000; decide) (by rw [tr_ini4]; exact q)
theorem tr_g5 (T : TX K mg) (h : H x = some (.ins (He.ga K "Trunk") dx (trF a1 a2 a3 a4 a5 a6 a7 a8 a9))) (q : Q a5 H) : FldK K "_sessions" (.ref x) H Q := c_fldAt h (C_Trunk T).cls (tr_N5 T) tr_get5 q
theorem tr_p5 (T : TX K mg) (h : H x = some (.ins (He.ga K "Trunk") dx (trF a1 a2 a3 a4 a5 a6 a7 a8 a9))) (q : R (upd H x (.ins (He.ga K "Trunk") dx (trF a1 a2 a3 a4 v a6 a7 a8 a9)))) : SetFldK K "_sessions" (.ref x) v H R := c_setFAt h (C_Trunk T).cls (tr_N5 T) (by show 9 < 1000; decide) (by rw [tr_put5]; exact q)
theorem tr_i5 (T : TX K mg) (h : H x = some (.ins (He.ga K "Trunk") dx ([("_patience", a1), ("_allowance", a2), ("_trees", a3), ("_entries", a4)] : List (Str × V)))) (q : R (upd H x (.ins (He.ga K "Trunk") dx ([("_patience", a1), ("_allowance", a2), ("_trees", a3), ("_entries", a4), ("_sessions", v)] : List (Str × V))))) : SetFldK K "_sessions" (.ref x) v H R := c_setFAt h (C_Trunk T).cls (tr_N5 T) (by show 4 < 1000; decide) (by rw [tr_ini5]; exact q)
theorem tr_g6 (T : TX K mg) (h : H x = some (.ins (He.ga K "Trunk") dx (trF a1 a2 a3 a4 a5 a6 a7 a8 a9))) (q : Q a6 H) : FldK K "_line" (.ref x) H Q := c_fldAt h (C_Trunk T).cls (tr_N6 T) tr_get6 q
theorem tr_p6 (T : TX K mg) (h : H x = some (.ins (He.ga K "Trunk") dx (trF a1 a2 a3 a4 a5 a6 a7 a8 a9))) (q : R (upd H x (.ins (He.ga K "Trunk") dx (trF a1 a2 a3 a4 a5 v a7 a8 a9)))) : SetFldK K "_line" (.ref x) v H R := c_setFAt h (C_Trunk T).cls (tr_N6 T) (by show 9 < 1000; decide) (by rw [tr_put6]; exact q)
theorem tr_i6 (T : TX K mg) (h : H x = some (.ins (He.ga K "Trunk") dx ([("_patience", a1), ("_allowance", a2), ("_trees", a3), ("_entries", a4), ("_sessions", a5)] : List (Str × V)))) (q : R (upd H x (.ins (He.ga K "Trunk") dx ([("_patience", a1), ("_allowance", a2), ("_trees", a3), ("_entries", a4), ("_sessions", a5), ("_line", v)] : List (Str × V))))) : SetFldK K "_line" (.ref x) v H R := c_setFAt h (C_Trunk T).cls (tr_N6 T) (by show 5 < 1000; decide) (by rw [tr_ini6]; exact q)
theorem tr_g7 (T : TX K mg) (h : H x = some (.ins (He.ga K "Trunk") dx (trF a1 a2 a3 a4 a5 a6 a7 a8 a9))) (q : Q a7 H) : FldK K "_checks" (.ref x) H Q := c_fldAt h (C_Trunk T).cls (tr_N7 T) tr_get7 q
theorem tr_p7 (T : TX K mg) (h : H x = some (.ins (He.ga K "Trunk") dx (trF a1 a2 a3 a4 a5 a6 a7 a8 a9))) (q : R (upd H x (.ins (He.ga K "Trunk") dx (trF a1 a2 a3 a4 a5 a6 v a8 a9)))) : SetFldK K "_checks" (.ref x) v H R := c_setFAt h (C_Trunk T).cls (tr_N7 T) (by show 9 < 1000; decide) (by rw [tr_put7]; exact q)
theorem tr_i7 (T : TX K mg) (h : H x = some (.ins (He.ga K "Trunk") dx ([("_patience", a1), ("_allowance", a2), ("_trees", a3), ("_entries", a4), ("_sessions", a5), ("_line", a6)] : List (Str × V)))) (q : R (upd H x (.ins (He.ga K "Trunk") dx ([("_patience", a1), ("_allowance", a2), ("_trees", a3), ("_entries", a4), ("_sessions", a5), ("_line", a6), ("_checks", v)] : List (Str × V))))) : SetFldK K "_checks" (.ref x) v H R := c_setFAt h (C_Trunk T).cls (tr_N7 T) (by show 6 < 1000; decide) (by rw [tr_ini7]; exact q)
theorem tr_g8 (T : TX K mg) (h : H x = some (.ins (He.ga K "Trunk") dx (trF a1 a2 a3 a4 a5 a6 a7 a8 a9))) (q : Q a8 H) : FldK K "_verdicts" (.ref x) H Q := c_fldAt h (C_Trunk T).cls (tr_N8 T) tr_get8 q
theorem tr_p8 (T : TX K mg) (h : H x = some (.ins (He.ga K "Trunk") dx (trF a1 a2 a3 a4 a5 a6 a7 a8 a9))) (q : R (upd H x (.ins (He.ga K "Trunk") dx (trF a1 a2 a3 a4 a5 a6 a7 v a9)))) : SetFldK K "_verdicts" (.ref x) v H R := c_setFAt h (C_Trunk T).cls (tr_N8 T) (by show 9 < 1000; decide) (by rw [tr_put8]; exact q)
theorem tr_i8 (T : TX K mg) (h : H x = some (.ins (He.ga K "Trunk") dx ([("_patience", a1), ("_allowance", a2), ("_trees", a3), ("_entries", a4), ("_sessions", a5), ("_line", a6), ("_checks", a7)] : List (Str × V)))) (q : R (upd H x (.ins (He.ga K "Trunk") dx ([("_patience", a1), ("_allowance", a2), ("_trees", a3), ("_entries", a4), ("_sessions", a5), ("_line", a6), ("_checks", a7), ("_verdicts", v)] : List (Str × V))))) : SetFldK K "_verdicts" (.ref x) v H R := c_setFAt h (C_Trunk T).cls (tr_N8 T) (by show 7 < 1000; decide) (by rw [tr_ini8]; exact q)
theorem tr_g9 (T : TX K mg) (h : H x = some (.ins (He.ga K "Trunk") dx (trF a1 a2 a3 a4 a5 a6 a7 a8 a9))) (q : Q a9 H) : FldK K "_runs" (.ref x) H Q := c_fldAt h (C_Trunk T).cls (tr_N9 T) tr_get9 q
theorem tr_p9 (T : TX K mg) (h : H x = some (.ins (He.ga K "Trunk") dx (trF a1 a2 a3 a4 a5 a6 a7 a8 a9))) (q : R (upd H x (.ins (He.ga K "Trunk") dx (trF a1 a2 a3 a4 a5 a6 a7 a8 v)))) : SetFldK K "_runs" (.ref x) v H R := c_setFAt h (C_Trunk T).cls (tr_N9 T) (by show 9 < 1000; decide) (by rw [tr_put9]; exact q)
theorem tr_i9 (T : TX K mg) (h : H x = some (.ins (He.ga K "Trunk") dx ([("_patience", a1), ("_allowance", a2), ("_trees", a3), ("_entries", a4), ("_sessions", a5), ("_line", a6), ("_checks", a7), ("_verdicts", a8)] : List (Str × V)))) (q : R (upd H x (.ins (He.ga K "Trunk") dx (trF a1 a2 a3 a4 a5 a6 a7 a8 v)))) : SetFldK K "_runs" (.ref x) v H R := c_setFAt h (C_Trunk T).cls (tr_N9 T) (by show 8 < 1000; decide) (by rw [tr_ini9]; exact q)
theorem tr_no {m : Str} {a1 a2 a3 a4 a5 a6 a7 a8 a9 : V} (h : m ∉ (["_patience", "_allowance", "_trees", "_entries", "_sessions", "_line", "_checks", "_verdicts", "_runs"] : List Str)) : (trF a1 a2 a3 a4 a5 a6 a7 a8 a9).lookup m = none := by
  unfold trF
  have n : ∀ z ∈ (["_patience", "_allowance", "_trees", "_entries", "_sessions", "_line", "_checks", "_verdicts", "_runs"] : List Str), (m == z) = false := fun z hz => by
    rw [beq_eq_false_iff_ne]
    exact fun e => h (e ▸ hz)
  simp only [List.lookup, n "_patience" (by simp), n "_allowance" (by simp), n "_trees" (by simp), n "_entries" (by simp), n "_sessions" (by simp), n "_line" (by simp), n "_checks" (by simp), n "_verdicts" (by simp), n "_runs" (by simp)]
theorem tr_r {m : Str} (h : H x = some (.ins (He.ga K "Trunk") dx (trF a1 a2 a3 a4 a5 a6 a7 a8 a9))) (hm : m ∉ (["_patience", "_allowance", "_trees", "_entries", "_sessions", "_line", "_checks", "_verdicts", "_runs"] : List Str)) (q : R H) : RecvK K "Trunk" m (.ref x) H R := c_recv h (tr_no hm) q
end
theorem c_un {r : V → Hp → VK → Prop} {ta : TE} {σ : St} {H : Hp} {Q : VK} (h : ta σ H fun x H1 => r x H1 Q) : tUn r ta σ H Q := h
theorem c_negI {i : Int} {H : Hp} {Q : VK} (q : Q (.int (-i)) H) : rU (fun i => .int (-i)) (.int i) H Q := ⟨i, rfl, q⟩
theorem atI_last {xs : List V} {v : V} (h : xs[xs.length - 1]? = some v) : atI xs (-1) = some v := by
  have hl : 0 < xs.length := by
    have := (List.getElem?_eq_some_iff.mp h).1
    omega
  unfold atI ixN
  rw [if_neg (by omega), if_pos (by omega)]
  have e1 : (-1 + (xs.length : Int)).toNat = xs.length - 1 := by omega
  simp only [Option.bind_some, e1]
  exact h
/-! ## what may be written to -/
def Fat : HO → Prop
  | .lst _ => True
  | .ins _ _ fs => fs.length ≠ 1
  | _ => False
/-- all else is kept -/
def Fk (H H' : Hp) : Prop := ∀ a o, H a = some o → ¬ Fat o → H' a = some o
theorem Fk.refl {H : Hp} : Fk H H := fun _ _ h _ => h
theorem Fk.trans {H H1 H2 : Hp} (e : Fk H H1) (f : Fk H1 H2) : Fk H H2 := fun a o h n => f a o (e a o h n) n
theorem kp_fk {H H' : Hp} (e : Kp [] H H') : Fk H H' := fun a o h _ => e.at0 h
theorem Fk.mut {H : Hp} {a : Addr} {o o' : HO} (h : H a = some o) (f : Fat o) : Fk H (upd H a o') := fun b u hb n => by
  by_cases z : b = a
  · subst z
    rw [h] at hb
    obtain rfl := Option.some.inj hb
    exact absurd f n
  · rw [upd_ne z]; exact hb
theorem kp_fkm {ms : List Addr} {H H' : Hp} (e : Kp ms H H') (f : ∀ m ∈ ms, ∀ o, H m = some o → Fat o) : Fk H H' := fun a o h n => by
  by_cases z : a ∈ ms
  · exact absurd (f a z o h) n
  · exact e a o z h
theorem Fk.kt {H H' : Hp} (e : Fk H H') : Kt H H' := fun a xs h => by
  rcases h with h | ⟨od, h⟩
  · exact .inl (e _ _ h (fun z => z))
  · exact .inr ⟨od, e _ _ h (fun z => z)⟩
theorem bx_fk {H H' : Hp} {b d : Addr} (B : Bx H b d) (e : Kp [b] H H') : Fk H H' := kp_fkm e fun m hm o ho => by
  obtain ⟨_, _, h, _⟩ := B.ex
  rw [List.mem_singleton.mp hm, h] at ho
  obtain rfl := Option.some.inj ho
  trivial
theorem TreeG.fk {K : PySem.W.Frag} {H H' : Hp} {t : Addr} {fs : List File} (h : TreeG K H t fs) (e : Fk H H') : TreeG K H' t fs := by
  obtain ⟨⟨dx, dd, ls, h1, h2, h3, h4, h5⟩, g⟩ := h
  exact ⟨⟨dx, dd, ls, e _ _ h1 (by intro z; simp [Fat] at z), e _ _ h2 (fun z => z), fun l hl => SqT.kt e.kt (h3 l hl), h4, h5⟩, g⟩
theorem FilesAt.fk {K : PySem.W.Frag} {H H' : Hp} {f : Addr} {fs : List File} (h : FilesAt K H f fs) (e : Fk H H') : FilesAt K H' f fs := by
  obtain ⟨ls, h1, h2, h3⟩ := h.ex
  exact ⟨ls, e _ _ h1 (fun z => z), fun l hl => SqT.kt e.kt (h2 l hl), h3⟩
/-! ## the plain trunk -/
structure Sess where
  nm : Str
  base : Nat
  jour : List Entry
  refs : Nat
  st : Str
structure TrS where
  pat : Nat
  all : Nat
  trees : List (List File)
  ents : List (Str × List Entry)
  sess : List Sess
  line : List Nat
  prot : Bool
  events : Nat
  runs : Nat
def entsD (e : Str × List Entry) : PyData := .tuple [.str e.1, jourD e.2]
structure TrA where
  t : Addr
  tl : Addr
  el : Addr
  sl : Addr
  li : Addr
  ll : Addr
  ck : Addr
  vd : Addr
  dx : Addr
  dy : Addr
  ts : List Addr
  es : List V
  ss : List Addr
def own (A : TrA) : List Addr := [A.t, A.tl, A.el, A.sl, A.li, A.ll] ++ A.ss
section
variable {K : PySem.W.Frag}
structure SessAt (K : PySem.W.Frag) (H : Hp) (a : Addr) (x : Sess) : Prop where
  ex : ∃ dx j, H a = some (.ins (He.ga K "Session") dx (seF (.str x.nm) (.int (x.base : Nat)) (.ref j) (.int (x.refs : Nat)) (.str x.st))) ∧ Dt K H (.ref j) (jourD x.jour)
theorem SessAt.fr {H H' : Hp} {a : Addr} {x : Sess} (h : SessAt K H a x) (e : H' a = H a) (k : Fk H H') : SessAt K H' a x := by
  obtain ⟨dx, j, h1, h2⟩ := h.ex
  exact ⟨dx, j, e.trans h1, Dt.kt k.kt h2⟩
structure TrAt (K : PySem.W.Frag) (H : Hp) (A : TrA) (s : TrS) : Prop where
  t : H A.t = some (.ins (He.ga K "Trunk") A.dx (trF (.int (s.pat : Nat)) (.int (s.all : Nat)) (.ref A.tl) (.ref A.el) (.ref A.sl) (.ref A.li) (.ref A.ck) (.ref A.vd) (.int (s.runs : Nat))))
  tl : H A.tl = some (.lst (A.ts.map V.ref))
  tn : A.ts.length = s.trees.length
  tr : ∀ (i : Nat) a fs, A.ts[i]? = some a → s.trees[i]? = some fs → TreeG K H a fs
  el : H A.el = some (.lst A.es)
  es : DtAll K H A.es (s.ents.map entsD)
  sl : H A.sl = some (.lst (A.ss.map V.ref))
  sn : A.ss.length = s.sess.length
  se : ∀ (i : Nat) a x, A.ss[i]? = some a → s.sess[i]? = some x → SessAt K H a x
  li : H A.li = some (.ins (He.ga K "Line") A.dy (liF (.ref A.ll) (.bl s.prot) (.int (s.events : Nat))))
  ll : H A.ll = some (.lst ((s.line.map fun n => ((n : Nat) : Int)).map V.int))
  ck : H A.ck = some (.dK [])
  vd : H A.vd = some (.dK [])
  nd : (own A).Nodup
variable {H H' : Hp} {A : TrA} {s : TrS}
theorem own_t : A.t ∈ own A := by simp [own]
theorem own_tl : A.tl ∈ own A := by simp [own]
theorem own_el : A.el ∈ own A := by simp [own]
theorem own_sl : A.sl ∈ own A := by simp [own]
theorem own_li : A.li ∈ own A := by simp [own]
theorem own_ll : A.ll ∈ own A := by simp [own]
theorem own_ss {a : Addr} (h : a ∈ A.ss) : a ∈ own A := by simp [own, h]
theorem TrAt.fat (h : TrAt K H A s) : ∀ a ∈ own A, ∃ o, H a = some o ∧ Fat o := fun a ha => by
  simp only [own, List.cons_append, List.nil_append, List.mem_cons] at ha
  rcases ha with rfl | rfl | rfl | rfl | rfl | rfl | ha
  · exact ⟨_, h.t, by show 9 ≠ 1; omega⟩
  · exact ⟨_, h.tl, trivial⟩
  · exact ⟨_, h.el, trivial⟩
  · exact ⟨_, h.sl, trivial⟩
  · exact ⟨_, h.li, by show 3 ≠ 1; omega⟩
  · exact ⟨_, h.ll, trivial⟩
  · obtain ⟨i, hi, e⟩ := List.mem_iff_getElem.mp ha
    have hi2 : i < s.sess.length := by have := h.sn; omega
    obtain ⟨dx, j, h1, _⟩ := (h.se i a s.sess[i] (by rw [List.getElem?_eq_getElem hi, e]) (List.getElem?_eq_getElem hi2)).ex
    exact ⟨_, h1, by show 5 ≠ 1; omega⟩
theorem TrAt.fr (h : TrAt K H A s) (e : ∀ a ∈ own A, H' a = H a) (k : Fk H H') : TrAt K H' A s :=
  ⟨(e _ own_t).trans h.t, (e _ own_tl).trans h.tl, h.tn, fun i a fs h1 h2 => (h.tr i a fs h1 h2).fk k, (e _ own_el).trans h.el, DtAll.kt k.kt h.es, (e _ own_sl).trans h.sl, h.sn,
    fun i a x h1 h2 => (h.se i a x h1 h2).fr (e _ (own_ss (List.mem_of_getElem? h1))) k, (e _ own_li).trans h.li, (e _ own_ll).trans h.ll, k _ _ h.ck (fun z => z), k _ _ h.vd (fun z => z), h.nd⟩
theorem TrAt.same (h : TrAt K H A s) {ms : List Addr} (e : Kp ms H H') (n : ∀ a ∈ own A, a ∉ ms) : ∀ a ∈ own A, H' a = H a := fun a ha => by
  obtain ⟨o, h1, _⟩ := h.fat a ha
  rw [h1, e a o (n a ha) h1]
theorem TrAt.kp (h : TrAt K H A s) (e : Kp [] H H') : TrAt K H' A s := h.fr (h.same e (by simp)) (kp_fk e)
theorem TrAt.kpm (h : TrAt K H A s) {ms : List Addr} (e : Kp ms H H') (n : ∀ a ∈ own A, a ∉ ms) (k : Fk H H') : TrAt K H' A s := h.fr (h.same e n) k
theorem TrAt.box {b d : Addr} (h : TrAt K H A s) (B : Bx H b d) (e : Kp [b] H H') (n : b ∉ own A) : TrAt K H' A s := h.kpm e (fun a ha z => n (by rw [← List.mem_singleton.mp z]; exact ha)) (bx_fk B e)
/-- a step of the trunk -/
structure Stp (K : PySem.W.Frag) (H : Hp) (A : TrA) (H' : Hp) (A' : TrA) (s' : TrS) : Prop where
  at_ : TrAt K H' A' s'
  kp : Kp (own A) H H'
  fk : Fk H H'
  ow : ∀ a ∈ own A', a ∈ own A ∨ H a = none
  tt : A'.t = A.t
theorem Stp.refl (h : TrAt K H A s) (e : Kp [] H H') : Stp K H A H' A s := ⟨h.kp e, e.mono, kp_fk e, fun _ h => .inl h, rfl⟩
theorem own_trans {H1 H2 : Hp} {A1 A2 : TrA} {s1 s2 : TrS} (e : Stp K H A H1 A1 s1) (f : Stp K H1 A1 H2 A2 s2) : ∀ a ∈ own A2, a ∈ own A ∨ H a = none := fun a ha => by
  rcases f.ow a ha with h | h
  · exact e.ow a h
  · by_cases z : a ∈ own A
    · exact .inl z
    · refine .inr ?_
      by_cases q : ∃ o, H a = some o
      · obtain ⟨o, q⟩ := q
        rw [e.kp a o z q] at h
        cases h
      · cases g : H a with
        | none => rfl
        | some o => exact absurd ⟨o, g⟩ q
theorem Stp.trans {H1 H2 : Hp} {A1 A2 : TrA} {s1 s2 : TrS} (e : Stp K H A H1 A1 s1) (f : Stp K H1 A1 H2 A2 s2) (hs : TrAt K H A s) : Stp K H A H2 A2 s2 :=
  ⟨f.at_, fun a o n h => f.kp a o (fun z => by
    rcases e.ow a z with z | z
    · exact n z
    · rw [h] at z; cases z) (e.kp a o n h), e.fk.trans f.fk, own_trans e f, f.tt.trans e.tt⟩
end
end K36



namespace K36
open PySem L2 Sa
local macro_rules | `(tactic| walk_at "s1") => `(tactic| first | (with_reducible apply c_dgetK))
local macro_rules | `(tactic| walk_at "s1") => `(tactic| (with_reducible apply c_raiseO))
local macro_rules | `(tactic| walk_at "s1") => `(tactic| first | (with_reducible apply c_un) | (with_reducible apply c_negI))
local macro_rules | `(tactic| walk_at "s1") => `(tactic| first | ((with_reducible apply se_g1 (by assumption)); (· walk_at "lk")) | ((with_reducible apply se_p1 (by assumption)); (· walk_at "lk")) | ((with_reducible apply se_g2 (by assumption)); (· walk_at "lk")) | ((with_reducible apply se_p2 (by assumption)); (· walk_at "lk")) | ((with_reducible apply se_g3 (by assumption)); (· walk_at "lk")) | ((with_reducible apply se_p3 (by assumption)); (· walk_at "lk")) | ((with_reducible apply se_g4 (by assumption)); (· walk_at "lk")) | ((with_reducible apply se_p4 (by assumption)); (· walk_at "lk")) | ((with_reducible apply se_g5 (by assumption)); (· walk_at "lk")) | ((with_reducible apply se_p5 (by assumption)); (· walk_at "lk")) | ((with_reducible apply se_r); (· walk_at "lk"); (· decide +kernel)))
local macro_rules | `(tactic| walk_at "s1") => `(tactic| first | ((with_reducible apply li_g1 (by assumption)); (· walk_at "lk")) | ((with_reducible apply li_p1 (by assumption)); (· walk_at "lk")) | ((with_reducible apply li_g2 (by assumption)); (· walk_at "lk")) | ((with_reducible apply li_p2 (by assumption)); (· walk_at "lk")) | ((with_reducible apply li_g3 (by assumption)); (· walk_at "lk")) | ((with_reducible apply li_p3 (by assumption)); (· walk_at "lk")) | ((with_reducible apply li_r); (· walk_at "lk"); (· decide +kernel)))
local macro_rules | `(tactic| walk_at "s1") => `(tactic| first | ((with_reducible apply tr_g1 (by assumption)); (· walk_at "lk")) | ((with_reducible apply tr_p1 (by assumption)); (· walk_at "lk")) | ((with_reducible apply tr_g2 (by assumption)); (· walk_at "lk")) | ((with_reducible apply tr_p2 (by assumption)); (· walk_at "lk")) | ((with_reducible apply tr_g3 (by assumption)); (· walk_at "lk")) | ((with_reducible apply tr_p3 (by assumption)); (· walk_at "lk")) | ((with_reducible apply tr_g4 (by assumption)); (· walk_at "lk")) | ((with_reducible apply tr_p4 (by assumption)); (· walk_at "lk")) | ((with_reducible apply tr_g5 (by assumption)); (· walk_at "lk")) | ((with_reducible apply tr_p5 (by assumption)); (· walk_at "lk")) | ((with_reducible apply tr_g6 (by assumption)); (· walk_at "lk")) | ((with_reducible apply tr_p6 (by assumption)); (· walk_at "lk")) | ((with_reducible apply tr_g7 (by assumption)); (· walk_at "lk")) | ((with_reducible apply tr_p7 (by assumption)); (· walk_at "lk")) | ((with_reducible apply tr_g8 (by assumption)); (· walk_at "lk")) | ((with_reducible apply tr_p8 (by assumption)); (· walk_at "lk")) | ((with_reducible apply tr_g9 (by assumption)); (· walk_at "lk")) | ((with_reducible apply tr_p9 (by assumption)); (· walk_at "lk")) | ((with_reducible apply tr_r); (· walk_at "lk"); (· decide +kernel)))
set_option pp.maxSteps 1500
section
variable {P : Program} {w : World} {K : PySem.W.Frag} {mg : Str → Option Value} {base : Heap}
theorem TrAt.at {H : Hp} {A : TrA} {s : TrS} (h : TrAt K H A s) {k : Nat} {x : Sess} (hk : s.sess[k]? = some x) : ∃ a, A.ss[k]? = some a ∧ SessAt K H a x := by
  have hl := (List.getElem?_eq_some_iff.mp hk).1
  have hl2 : k < A.ss.length := by rw [h.sn]; exact hl
  exact ⟨A.ss[k], List.getElem?_eq_getElem hl2, h.se k _ x (List.getElem?_eq_getElem hl2) hk⟩
theorem TrAt.tree {H : Hp} {A : TrA} {s : TrS} (h : TrAt K H A s) {k : Nat} {fs : List File} (hk : s.trees[k]? = some fs) : ∃ a, A.ts[k]? = some a ∧ TreeG K H a fs := by
  have hl := (List.getElem?_eq_some_iff.mp hk).1
  have hl2 : k < A.ts.length := by rw [h.tn]; exact hl
  exact ⟨A.ts[k], List.getElem?_eq_getElem hl2, h.tr k _ fs (List.getElem?_eq_getElem hl2) hk⟩
def spTrVer (K : PySem.W.Frag) : Sp := fun vs H Q _ => ∃ (A : TrA) (s : TrS), vs = [.ref A.t] ∧ TrAt K H A s ∧ Q (.int ((s.trees.length : Int) - 1)) H
theorem sc_Trunk_version : FnScope ["self"] ["self"] (defScope s_Trunk_version) := ⟨rfl, rfl, rfl, by decide +kernel, rfl, by decide +kernel, by decide +kernel⟩
theorem bn_Trunk_version : BindM "version" "Trunk.version" s_Trunk_version ["self"] := fun _ _ _ _ _ _ us hl => match us, hl with | [_], _ => rfl
theorem b_Trunk_version (T : TX K mg) : BodyM P w K mg base "Trunk" "version" "Trunk.version" s_Trunk_version ["self"] 1 (spTrVer K) := by
  intro cdv A outer s H vs Q E h X hr
  obtain ⟨A, s, rfl, h, q⟩ := h
  refine ⟨_, (pss_one (ps_ret (pe_op op_subU (pe_callB (cr_len (K := K)) rfl (T.free 2) PySem.boot_len (pa_cons (pe_fldU (K := K) (pv 0)) pa_nil)) pe_int))), ?_⟩
  have ht := h.t
  have htl : SqL K H A.tl (A.ts.map V.ref) := SqL.of h.tl
  rw [← h.tn] at q
  walk_at "st"
  rw [List.length_map]
  exact q
theorem M_Trunk_version (T : TX K mg) : MethAt P w K mg base CX0 "Trunk" "version" 2 ["self"] (spTrVer K) :=
  meth_of T 78 111 sc_Trunk_version bn_Trunk_version (by walk_at "len") (b_Trunk_version T)
def NoS (K : PySem.W.Frag) (H : Hp) (E : XK) (x : Str) : Prop := ∀ H', Kp [] H H' → E (.ref (He.ga K x)) none H'
def spTrKnown (K : PySem.W.Frag) : Sp := fun vs H Q E => ∃ (A : TrA) (s : TrS) (i : Int), vs = [.ref A.t, .int i] ∧ TrAt K H A s ∧
  (∀ (k : Nat) a x, i = (k : Int) → s.sess[k]? = some x → A.ss[k]? = some a → SessAt K H a x → Q (.ref a) H) ∧ (¬ (0 ≤ i ∧ i < s.sess.length) → E (.ref (He.ga K "NoSession")) none H)
theorem sc_Trunk__known : FnScope ["self", "session"] ["self", "session"] (defScope s_Trunk__known) := ⟨rfl, rfl, rfl, by decide +kernel, rfl, by decide +kernel, by decide +kernel⟩
theorem bn_Trunk__known : BindM "_known" "Trunk._known" s_Trunk__known ["self", "session"] := fun _ _ _ _ _ _ us hl => match us, hl with | [_, _], _ => rfl
theorem b_Trunk__known (T : TX K mg) : BodyMX P w K mg base "Trunk" "_known" "Trunk._known" s_Trunk__known ["self", "session"] 1 (spTrKnown K) := by
  intro cdv A outer s H vs Q E h X hr tk
  obtain ⟨A, s, i, rfl, h, q1, q2⟩ := h
  refine ⟨_, (pss_cons (ps_if (pt_not (pt_chain op_leU op_ltU pe_int (pv 1) (pe_callB (cr_len (K := K)) rfl (T.free 2) PySem.boot_len (pa_cons (pe_fldU (K := K) (pv 0)) pa_nil)))) (pss_one (ps_raiseO (K := K) (T.exo 87 124) tk)) pss_nil) (pss_one (ps_ret (pe_ix (ix_U (K := K)) (pe_fldU (K := K) (pv 0)) (pv 1) (fun _ _ => rfl))))), ?_⟩
  have ht := h.t
  have hsl : SqL K H A.sl (A.ss.map V.ref) := SqL.of h.sl
  walk_at "st"
  refine c_ite (fun ga => ?_) (fun ga => ?_)
  · walk_at "st"
    rw [List.length_map, h.sn]
    refine c_iteN (fun gb => ?_) (fun gb => ?_)
    · walk_at "st"
      exact q2 fun z => gb z.2
    · obtain ⟨k, rfl⟩ := Int.eq_ofNat_of_zero_le ga
      obtain ⟨x, hx⟩ : ∃ x, s.sess[k]? = some x := ⟨_, List.getElem?_eq_getElem (by omega)⟩
      obtain ⟨a, ha, hs⟩ := h.at hx
      walk_at "st"
      refine c_ixL (v := .ref a) hsl (atI_nat (j := k) (by rw [List.getElem?_map, ha]; rfl)) ?_
      exact q1 k a x rfl hx ha hs
  · walk_at "st"
    exact q2 fun z => ga z.1
theorem M_Trunk__known (T : TX K mg) : MethAt P w K mg base (L2.CX P w) "Trunk" "_known" 2 ["self", "session"] (spTrKnown K) :=
  meth_ofX T 87 125 sc_Trunk__known bn_Trunk__known (by walk_at "len") (b_Trunk__known T)
def spTrOpened (K : PySem.W.Frag) : Sp := fun vs H Q E => ∃ (A : TrA) (s : TrS) (i : Int), vs = [.ref A.t, .int i] ∧ TrAt K H A s ∧
  (∀ (k : Nat) a x, i = (k : Int) → s.sess[k]? = some x → x.st = "open" → A.ss[k]? = some a → SessAt K H a x → Q (.ref a) H) ∧ ((∀ (k : Nat) x, i = (k : Int) → s.sess[k]? = some x → x.st ≠ "open") → E (.ref (He.ga K "NoSession")) none H)
theorem sc_Trunk__opened : FnScope ["self", "session", "found"] ["self", "session"] (defScope s_Trunk__opened) := ⟨rfl, rfl, rfl, by decide +kernel, rfl, by decide +kernel, by decide +kernel⟩
theorem bn_Trunk__opened : BindM "_opened" "Trunk._opened" s_Trunk__opened ["self", "session"] := fun _ _ _ _ _ _ us hl => match us, hl with | [_, _], _ => rfl
theorem b_Trunk__opened (T : TX K mg) : BodyMX P w K mg base "Trunk" "_opened" "Trunk._opened" s_Trunk__opened ["self", "session", "found"] 2 (spTrOpened K) := by
  intro cdv A outer s H vs Q E h X hr tk
  obtain ⟨A, s, i, rfl, h, q1, q2⟩ := h
  have C_Trunk := C_Trunk T; have M_Trunk__known := M_Trunk__known (P := P) (w := w) (base := base) T
  refine ⟨_, (pss_cons (ps_set (i := 2) sc_Trunk__opened.nd rfl (Or.inl rfl) (pe_methS1 M_Trunk__known C_Trunk hr (atW tk) (pv 0) (pa_cons (pv 1) pa_nil))) (pss_cons (ps_if (pt_cmpR (op_neU (K := K) hr.units) (pe_fldU (K := K) (pv 2)) pe_str (nomark _)) (pss_one (ps_raiseO (K := K) (T.exo 87 124) tk)) pss_nil) (pss_one (ps_ret (pv 2))))), ?_⟩
  have ht := h.t
  walk_at "st"
  refine ⟨A, s, i, rfl, h, fun k a x e hx ha hs => ?_, fun no => q2 fun k x e hx => absurd ⟨by omega, by have := (List.getElem?_eq_some_iff.mp hx).1; omega⟩ no⟩
  obtain ⟨dx, j, h1, h2⟩ := hs.ex
  walk_at "st"
  refine c_iteN (fun g => ?_) (fun g => ?_)
  · walk_at "st"
    exact q2 fun k' x' e' hx' => by
      have : k' = k := by omega
      subst this
      rw [hx] at hx'
      obtain rfl := Option.some.inj hx'
      exact g
  · walk_at "st"
    exact q1 k a x e hx g ha hs
theorem M_Trunk__opened (T : TX K mg) : MethAt P w K mg base (L2.CX P w) "Trunk" "_opened" 3 ["self", "session"] (spTrOpened K) :=
  meth_ofX T 88 126 sc_Trunk__opened bn_Trunk__opened (by walk_at "len") (b_Trunk__opened T)
/-- what is told of a session -/
def spTrGet (K : PySem.W.Frag) (f : Sess → V → Prop) : Sp := fun vs H Q E => ∃ (A : TrA) (s : TrS) (i : Int), vs = [.ref A.t, .int i] ∧ TrAt K H A s ∧
  (∀ (k : Nat) x v, i = (k : Int) → s.sess[k]? = some x → f x v → Q v H) ∧ (¬ (0 ≤ i ∧ i < s.sess.length) → E (.ref (He.ga K "NoSession")) none H)
theorem sc_Trunk_state : FnScope ["self", "session"] ["self", "session"] (defScope s_Trunk_state) := ⟨rfl, rfl, rfl, by decide +kernel, rfl, by decide +kernel, by decide +kernel⟩
theorem bn_Trunk_state : BindM "state" "Trunk.state" s_Trunk_state ["self", "session"] := fun _ _ _ _ _ _ us hl => match us, hl with | [_, _], _ => rfl
theorem b_Trunk_state (T : TX K mg) : BodyMX P w K mg base "Trunk" "state" "Trunk.state" s_Trunk_state ["self", "session"] 2 (spTrGet K fun x v => v = .str x.st) := by
  intro cdv A outer s H vs Q E h X hr tk
  obtain ⟨A, s, i, rfl, h, q1, q2⟩ := h
  have C_Trunk := C_Trunk T; have M_Trunk__known := M_Trunk__known (P := P) (w := w) (base := base) T
  refine ⟨_, (pss_one (ps_ret (pe_fldU (K := K) (pe_methS1 M_Trunk__known C_Trunk hr (atW tk) (pv 0) (pa_cons (pv 1) pa_nil))))), ?_⟩
  have ht := h.t
  walk_at "st"
  refine ⟨A, s, i, rfl, h, fun k a x e hx ha hs => ?_, q2⟩
  obtain ⟨dx, j, h1, h2⟩ := hs.ex
  walk_at "st"
  exact q1 k x _ e hx rfl
theorem M_Trunk_state (T : TX K mg) : MethAt P w K mg base (L2.CX P w) "Trunk" "state" 3 ["self", "session"] (spTrGet K fun x v => v = .str x.st) :=
  meth_ofX T 94 135 sc_Trunk_state bn_Trunk_state (by walk_at "len") (b_Trunk_state T)
theorem sc_Trunk_name : FnScope ["self", "session"] ["self", "session"] (defScope s_Trunk_name) := ⟨rfl, rfl, rfl, by decide +kernel, rfl, by decide +kernel, by decide +kernel⟩
theorem bn_Trunk_name : BindM "name" "Trunk.name" s_Trunk_name ["self", "session"] := fun _ _ _ _ _ _ us hl => match us, hl with | [_, _], _ => rfl
theorem b_Trunk_name (T : TX K mg) : BodyMX P w K mg base "Trunk" "name" "Trunk.name" s_Trunk_name ["self", "session"] 2 (spTrGet K fun x v => v = .str x.nm) := by
  intro cdv A outer s H vs Q E h X hr tk
  obtain ⟨A, s, i, rfl, h, q1, q2⟩ := h
  have C_Trunk := C_Trunk T; have M_Trunk__known := M_Trunk__known (P := P) (w := w) (base := base) T
  refine ⟨_, (pss_one (ps_ret (pe_fldU (K := K) (pe_methS1 M_Trunk__known C_Trunk hr (atW tk) (pv 0) (pa_cons (pv 1) pa_nil))))), ?_⟩
  have ht := h.t
  walk_at "st"
  refine ⟨A, s, i, rfl, h, fun k a x e hx ha hs => ?_, q2⟩
  obtain ⟨dx, j, h1, h2⟩ := hs.ex
  walk_at "st"
  exact q1 k x _ e hx rfl
theorem M_Trunk_name (T : TX K mg) : MethAt P w K mg base (L2.CX P w) "Trunk" "name" 3 ["self", "session"] (spTrGet K fun x v => v = .str x.nm) :=
  meth_ofX T 95 136 sc_Trunk_name bn_Trunk_name (by walk_at "len") (b_Trunk_name T)
theorem sc_Trunk_base : FnScope ["self", "session"] ["self", "session"] (defScope s_Trunk_base) := ⟨rfl, rfl, rfl, by decide +kernel, rfl, by decide +kernel, by decide +kernel⟩
theorem bn_Trunk_base : BindM "base" "Trunk.base" s_Trunk_base ["self", "session"] := fun _ _ _ _ _ _ us hl => match us, hl with | [_, _], _ => rfl
theorem b_Trunk_base (T : TX K mg) : BodyMX P w K mg base "Trunk" "base" "Trunk.base" s_Trunk_base ["self", "session"] 2 (spTrGet K fun x v => v = .int (x.base : Nat)) := by
  intro cdv A outer s H vs Q E h X hr tk
  obtain ⟨A, s, i, rfl, h, q1, q2⟩ := h
  have C_Trunk := C_Trunk T; have M_Trunk__known := M_Trunk__known (P := P) (w := w) (base := base) T
  refine ⟨_, (pss_one (ps_ret (pe_fldU (K := K) (pe_methS1 M_Trunk__known C_Trunk hr (atW tk) (pv 0) (pa_cons (pv 1) pa_nil))))), ?_⟩
  have ht := h.t
  walk_at "st"
  refine ⟨A, s, i, rfl, h, fun k a x e hx ha hs => ?_, q2⟩
  obtain ⟨dx, j, h1, h2⟩ := hs.ex
  walk_at "st"
  exact q1 k x _ e hx rfl
theorem M_Trunk_base (T : TX K mg) : MethAt P w K mg base (L2.CX P w) "Trunk" "base" 3 ["self", "session"] (spTrGet K fun x v => v = .int (x.base : Nat)) :=
  meth_ofX T 96 137 sc_Trunk_base bn_Trunk_base (by walk_at "len") (b_Trunk_base T)
theorem sc_Trunk_refusals : FnScope ["self", "session"] ["self", "session"] (defScope s_Trunk_refusals) := ⟨rfl, rfl, rfl, by decide +kernel, rfl, by decide +kernel, by decide +kernel⟩
theorem bn_Trunk_refusals : BindM "refusals" "Trunk.refusals" s_Trunk_refusals ["self", "session"] := fun _ _ _ _ _ _ us hl => match us, hl with | [_, _], _ => rfl
theorem b_Trunk_refusals (T : TX K mg) : BodyMX P w K mg base "Trunk" "refusals" "Trunk.refusals" s_Trunk_refusals ["self", "session"] 2 (spTrGet K fun x v => v = .int (x.refs : Nat)) := by
  intro cdv A outer s H vs Q E h X hr tk
  obtain ⟨A, s, i, rfl, h, q1, q2⟩ := h
  have C_Trunk := C_Trunk T; have M_Trunk__known := M_Trunk__known (P := P) (w := w) (base := base) T
  refine ⟨_, (pss_one (ps_ret (pe_fldU (K := K) (pe_methS1 M_Trunk__known C_Trunk hr (atW tk) (pv 0) (pa_cons (pv 1) pa_nil))))), ?_⟩
  have ht := h.t
  walk_at "st"
  refine ⟨A, s, i, rfl, h, fun k a x e hx ha hs => ?_, q2⟩
  obtain ⟨dx, j, h1, h2⟩ := hs.ex
  walk_at "st"
  exact q1 k x _ e hx rfl
theorem M_Trunk_refusals (T : TX K mg) : MethAt P w K mg base (L2.CX P w) "Trunk" "refusals" 3 ["self", "session"] (spTrGet K fun x v => v = .int (x.refs : Nat)) :=
  meth_ofX T 97 138 sc_Trunk_refusals bn_Trunk_refusals (by walk_at "len") (b_Trunk_refusals T)
def spTrJour (K : PySem.W.Frag) : Sp := fun vs H Q E => ∃ (A : TrA) (s : TrS) (i : Int), vs = [.ref A.t, .int i] ∧ TrAt K H A s ∧
  (∀ (k : Nat) x j, i = (k : Int) → s.sess[k]? = some x → Dt K H (.ref j) (jourD x.jour) → Q (.ref j) H) ∧ (¬ (0 ≤ i ∧ i < s.sess.length) → E (.ref (He.ga K "NoSession")) none H)
theorem sc_Trunk_journal : FnScope ["self", "session"] ["self", "session"] (defScope s_Trunk_journal) := ⟨rfl, rfl, rfl, by decide +kernel, rfl, by decide +kernel, by decide +kernel⟩
theorem bn_Trunk_journal : BindM "journal" "Trunk.journal" s_Trunk_journal ["self", "session"] := fun _ _ _ _ _ _ us hl => match us, hl with | [_, _], _ => rfl
theorem b_Trunk_journal (T : TX K mg) : BodyMX P w K mg base "Trunk" "journal" "Trunk.journal" s_Trunk_journal ["self", "session"] 2 (spTrJour K) := by
  intro cdv A outer s H vs Q E h X hr tk
  obtain ⟨A, s, i, rfl, h, q1, q2⟩ := h
  have C_Trunk := C_Trunk T; have M_Trunk__known := M_Trunk__known (P := P) (w := w) (base := base) T
  refine ⟨_, (pss_one (ps_ret (pe_fldU (K := K) (pe_methS1 M_Trunk__known C_Trunk hr (atW tk) (pv 0) (pa_cons (pv 1) pa_nil))))), ?_⟩
  have ht := h.t
  walk_at "st"
  refine ⟨A, s, i, rfl, h, fun k a x e hx ha hs => ?_, q2⟩
  obtain ⟨dx, j, h1, h2⟩ := hs.ex
  walk_at "st"
  exact q1 k x j e hx h2
theorem M_Trunk_journal (T : TX K mg) : MethAt P w K mg base (L2.CX P w) "Trunk" "journal" 3 ["self", "session"] (spTrJour K) :=
  meth_ofX T 98 139 sc_Trunk_journal bn_Trunk_journal (by walk_at "len") (b_Trunk_journal T)
def sightF (s : TrS) (x : Sess) : List File := leadF (s.trees.getD x.base []) (x.jour.map Prod.fst)
/-- a session within its bounds -/
structure SessOk (s : TrS) (x : Sess) : Prop where
  jl : x.jour.length ≤ 40
  je : ∀ e ∈ x.jour, EntOk e
  bs : x.base < s.trees.length
  jf : ∀ e ∈ x.jour, Fit 3 14000 e.2
def spTrSight (K : PySem.W.Frag) : Sp := fun vs H Q E => ∃ (A : TrA) (s : TrS) (i : Int), vs = [.ref A.t, .int i] ∧ TrAt K H A s ∧ (∀ x ∈ s.sess, SessOk s x) ∧
  (∀ (k : Nat) x a H', i = (k : Int) → s.sess[k]? = some x → Kp [] H H' → TreeG K H' a (sightF s x) → Q (.ref a) H') ∧ (¬ (0 ≤ i ∧ i < s.sess.length) → E (.ref (He.ga K "NoSession")) none H)
theorem sc_Trunk_sight : FnScope ["self", "session", "found"] ["self", "session"] (defScope s_Trunk_sight) := ⟨rfl, rfl, rfl, by decide +kernel, rfl, by decide +kernel, by decide +kernel⟩
theorem bn_Trunk_sight : BindM "sight" "Trunk.sight" s_Trunk_sight ["self", "session"] := fun _ _ _ _ _ _ us hl => match us, hl with | [_, _], _ => rfl
theorem b_Trunk_sight (T : TX K mg) : BodyMX P w K mg base "Trunk" "sight" "Trunk.sight" s_Trunk_sight ["self", "session", "found"] 11 (spTrSight K) := by
  intro cdv A outer s H vs Q E h X hr tk
  obtain ⟨A, s, i, rfl, h, ok, q1, q2⟩ := h
  have C_Trunk := C_Trunk T; have D_lead := D_lead (P := P) (w := w) (base := base) T; have M_Trunk__known := M_Trunk__known (P := P) (w := w) (base := base) T
  refine ⟨_, (pss_cons (ps_set (i := 2) sc_Trunk_sight.nd rfl (Or.inl rfl) (pe_methS1 M_Trunk__known C_Trunk hr (atW tk) (pv 0) (pa_cons (pv 1) pa_nil))) (pss_one (ps_ret (pe_callX D_lead hr tk (pa_cons (pe_fldU (K := K) (pv 2)) (pa_cons (pe_ix (ix_U (K := K)) (pe_fldU (K := K) (pv 0)) (pe_fldU (K := K) (pv 2)) (fun _ _ => rfl)) pa_nil)))))), ?_⟩
  have ht := h.t
  walk_at "st"
  refine ⟨A, s, i, rfl, h, fun k a x e hx ha hs => ?_, q2⟩
  obtain ⟨dx, j, h1, h2⟩ := hs.ex
  obtain ⟨o1, o2, o3⟩ := ok x (List.mem_of_getElem? hx)
  have htr : s.trees[x.base]? = some (s.trees.getD x.base []) := by rw [List.getD_eq_getElem?_getD, List.getElem?_eq_getElem o3]; rfl
  obtain ⟨ta, hta, hT⟩ := h.tree htr
  walk_at "st"
  refine c_ixL (v := .ref ta) (SqL.of h.tl) (atI_nat (j := x.base) (by rw [List.getElem?_map, hta]; rfl)) ?_
  walk_at "st"
  refine ⟨j, ta, x.jour, _, rfl, hT, h2, by omega, o2, fun t' H' e' hT' => ?_⟩
  first | (walk_at "st"; exact q1 k x t' H' e hx e' hT') | exact q1 k x t' H' e hx e' hT'
theorem M_Trunk_sight (T : TX K mg) : MethAt P w K mg base (L2.CX P w) "Trunk" "sight" 12 ["self", "session"] (spTrSight K) :=
  meth_ofX T 99 140 sc_Trunk_sight bn_Trunk_sight (by walk_at "len") (b_Trunk_sight T)
def spTrTree (K : PySem.W.Frag) : Sp := fun vs H Q E => ∃ (A : TrA) (s : TrS) (i : Int), vs = [.ref A.t, .int i] ∧ TrAt K H A s ∧
  (∀ (k : Nat) a fs, i = (k : Int) → s.trees[k]? = some fs → TreeG K H a fs → Q (.ref a) H) ∧ (¬ (0 ≤ i ∧ i < s.trees.length) → RaisesE K H E "version")
theorem sc_Trunk_tree : FnScope ["self", "version"] ["self", "version"] (defScope s_Trunk_tree) := ⟨rfl, rfl, rfl, by decide +kernel, rfl, by decide +kernel, by decide +kernel⟩
theorem bn_Trunk_tree : BindM "tree" "Trunk.tree" s_Trunk_tree ["self", "version"] := fun _ _ _ _ _ _ us hl => match us, hl with | [_, _], _ => rfl
theorem b_Trunk_tree (T : TX K mg) : BodyMX P w K mg base "Trunk" "tree" "Trunk.tree" s_Trunk_tree ["self", "version"] 3 (spTrTree K) := by
  intro cdv A outer s H vs Q E h X hr tk
  obtain ⟨A, s, i, rfl, h, q1, q2⟩ := h
  have C_Trunk := C_Trunk T; have E_OutOfRange := E_OutOfRange (P := P) (w := w) (base := base) T; have M_Trunk_version := M_Trunk_version (P := P) (w := w) (base := base) T
  refine ⟨_, (pss_cons (ps_if (pt_not (pt_chain op_leU op_leU pe_int (pv 1) (pe_methS0 M_Trunk_version C_Trunk hr at0 (pv 0)))) (pss_one (ps_raiseE (K := K) E_OutOfRange hr tk (pa_cons pe_str pa_nil))) pss_nil) (pss_one (ps_ret (pe_ix (ix_U (K := K)) (pe_fldU (K := K) (pv 0)) (pv 1) (fun _ _ => rfl))))), ?_⟩
  have ht := h.t
  have htl : SqL K H A.tl (A.ts.map V.ref) := SqL.of h.tl
  walk_at "st"
  refine c_ite (fun ga => ?_) (fun ga => ?_)
  · walk_at "st"
    refine ⟨A, s, rfl, h, ?_⟩
    walk_at "st"
    refine c_iteN (fun gb => ?_) (fun gb => ?_)
    · walk_at "st"
      exact c_err fun d H2 N => q2 (fun z => gb (by omega)) d H2 N.kp N.at_
    · obtain ⟨k, rfl⟩ := Int.eq_ofNat_of_zero_le ga
      obtain ⟨fs, hx⟩ : ∃ x, s.trees[k]? = some x := ⟨_, List.getElem?_eq_getElem (by omega)⟩
      obtain ⟨a, ha, hs⟩ := h.tree hx
      walk_at "st"
      refine c_ixL (v := .ref a) htl (atI_nat (j := k) (by rw [List.getElem?_map, ha]; rfl)) ?_
      exact q1 k a fs rfl hx hs
  · walk_at "st"
    exact c_err fun d H2 N => q2 (fun z => ga z.1) d H2 N.kp N.at_
theorem M_Trunk_tree (T : TX K mg) : MethAt P w K mg base (L2.CX P w) "Trunk" "tree" 4 ["self", "version"] (spTrTree K) :=
  meth_ofX T 79 112 sc_Trunk_tree bn_Trunk_tree (by walk_at "len") (b_Trunk_tree T)
def spTrEntry (K : PySem.W.Frag) : Sp := fun vs H Q E => ∃ (A : TrA) (s : TrS) (i : Int), vs = [.ref A.t, .int i] ∧ TrAt K H A s ∧ s.ents.length + 1 = s.trees.length ∧
  (∀ (k : Nat) v e, i = ((k + 1 : Nat) : Int) → s.ents[k]? = some e → Dt K H v (entsD e) → Q v H) ∧ (¬ (1 ≤ i ∧ i < s.trees.length) → RaisesE K H E "version")
theorem sc_Trunk_entry : FnScope ["self", "version"] ["self", "version"] (defScope s_Trunk_entry) := ⟨rfl, rfl, rfl, by decide +kernel, rfl, by decide +kernel, by decide +kernel⟩
theorem bn_Trunk_entry : BindM "entry" "Trunk.entry" s_Trunk_entry ["self", "version"] := fun _ _ _ _ _ _ us hl => match us, hl with | [_, _], _ => rfl
theorem b_Trunk_entry (T : TX K mg) : BodyMX P w K mg base "Trunk" "entry" "Trunk.entry" s_Trunk_entry ["self", "version"] 3 (spTrEntry K) := by
  intro cdv A outer s H vs Q E h X hr tk
  obtain ⟨A, s, i, rfl, h, hel, q1, q2⟩ := h
  have C_Trunk := C_Trunk T; have E_OutOfRange := E_OutOfRange (P := P) (w := w) (base := base) T; have M_Trunk_version := M_Trunk_version (P := P) (w := w) (base := base) T
  refine ⟨_, (pss_cons (ps_if (pt_not (pt_chain op_leU op_leU pe_int (pv 1) (pe_methS0 M_Trunk_version C_Trunk hr at0 (pv 0)))) (pss_one (ps_raiseE (K := K) E_OutOfRange hr tk (pa_cons pe_str pa_nil))) pss_nil) (pss_one (ps_ret (pe_ix (ix_U (K := K)) (pe_fldU (K := K) (pv 0)) (pe_op op_subU (pv 1) pe_int) (fun _ _ => rfl))))), ?_⟩
  have ht := h.t
  walk_at "st"
  refine c_ite (fun ga => ?_) (fun ga => ?_)
  · walk_at "st"
    refine ⟨A, s, rfl, h, ?_⟩
    walk_at "st"
    refine c_iteN (fun gb => ?_) (fun gb => ?_)
    · walk_at "st"
      exact c_err fun d H2 N => q2 (fun z => gb (by omega)) d H2 N.kp N.at_
    · obtain ⟨k, hk⟩ : ∃ k : Nat, i = ((k + 1 : Nat) : Int) := ⟨(i - 1).toNat, by omega⟩
      subst hk
      obtain ⟨e, he⟩ : ∃ x, s.ents[k]? = some x := ⟨_, List.getElem?_eq_getElem (by omega)⟩
      obtain ⟨v, hv1, hv2⟩ := dta_get h.es (show (s.ents.map entsD)[k]? = some (entsD e) by rw [List.getElem?_map, he]; rfl)
      walk_at "st"
      refine c_ixL (v := v) (SqL.of h.el) (by
        have : ((k + 1 : Nat) : Int) - 1 = (k : Nat) := by omega
        rw [this]
        exact atI_nat (j := k) hv1) ?_
      exact q1 k v e rfl he hv2
  · walk_at "st"
    exact c_err fun d H2 N => q2 (fun z => ga z.1) d H2 N.kp N.at_
theorem M_Trunk_entry (T : TX K mg) : MethAt P w K mg base (L2.CX P w) "Trunk" "entry" 4 ["self", "version"] (spTrEntry K) :=
  meth_ofX T 80 113 sc_Trunk_entry bn_Trunk_entry (by walk_at "len") (b_Trunk_entry T)
end
end K36



namespace K36
open PySem L2 Sa
local macro_rules | `(tactic| walk_at "s1") => `(tactic| first | (with_reducible apply c_dgetK))
local macro_rules | `(tactic| walk_at "s1") => `(tactic| (with_reducible apply c_raiseO))
local macro_rules | `(tactic| walk_at "s1") => `(tactic| first | (with_reducible apply c_un) | (with_reducible apply c_negI))
local macro_rules | `(tactic| walk_at "s1") => `(tactic| first | ((with_reducible apply se_g1 (by assumption)); (· walk_at "lk")) | ((with_reducible apply se_p1 (by assumption)); (· walk_at "lk")) | ((with_reducible apply se_g2 (by assumption)); (· walk_at "lk")) | ((with_reducible apply se_p2 (by assumption)); (· walk_at "lk")) | ((with_reducible apply se_g3 (by assumption)); (· walk_at "lk")) | ((with_reducible apply se_p3 (by assumption)); (· walk_at "lk")) | ((with_reducible apply se_g4 (by assumption)); (· walk_at "lk")) | ((with_reducible apply se_p4 (by assumption)); (· walk_at "lk")) | ((with_reducible apply se_g5 (by assumption)); (· walk_at "lk")) | ((with_reducible apply se_p5 (by assumption)); (· walk_at "lk")) | ((with_reducible apply se_r); (· walk_at "lk"); (· decide +kernel)))
local macro_rules | `(tactic| walk_at "s1") => `(tactic| first | ((with_reducible apply li_g1 (by assumption)); (· walk_at "lk")) | ((with_reducible apply li_p1 (by assumption)); (· walk_at "lk")) | ((with_reducible apply li_g2 (by assumption)); (· walk_at "lk")) | ((with_reducible apply li_p2 (by assumption)); (· walk_at "lk")) | ((with_reducible apply li_g3 (by assumption)); (· walk_at "lk")) | ((with_reducible apply li_p3 (by assumption)); (· walk_at "lk")) | ((with_reducible apply li_r); (· walk_at "lk"); (· decide +kernel)))
local macro_rules | `(tactic| walk_at "s1") => `(tactic| first | ((with_reducible apply tr_g1 (by assumption)); (· walk_at "lk")) | ((with_reducible apply tr_p1 (by assumption)); (· walk_at "lk")) | ((with_reducible apply tr_g2 (by assumption)); (· walk_at "lk")) | ((with_reducible apply tr_p2 (by assumption)); (· walk_at "lk")) | ((with_reducible apply tr_g3 (by assumption)); (· walk_at "lk")) | ((with_reducible apply tr_p3 (by assumption)); (· walk_at "lk")) | ((with_reducible apply tr_g4 (by assumption)); (· walk_at "lk")) | ((with_reducible apply tr_p4 (by assumption)); (· walk_at "lk")) | ((with_reducible apply tr_g5 (by assumption)); (· walk_at "lk")) | ((with_reducible apply tr_p5 (by assumption)); (· walk_at "lk")) | ((with_reducible apply tr_g6 (by assumption)); (· walk_at "lk")) | ((with_reducible apply tr_p6 (by assumption)); (· walk_at "lk")) | ((with_reducible apply tr_g7 (by assumption)); (· walk_at "lk")) | ((with_reducible apply tr_p7 (by assumption)); (· walk_at "lk")) | ((with_reducible apply tr_g8 (by assumption)); (· walk_at "lk")) | ((with_reducible apply tr_p8 (by assumption)); (· walk_at "lk")) | ((with_reducible apply tr_g9 (by assumption)); (· walk_at "lk")) | ((with_reducible apply tr_p9 (by assumption)); (· walk_at "lk")) | ((with_reducible apply tr_r); (· walk_at "lk"); (· decide +kernel)))
set_option pp.maxSteps 1500
theorem inV_int (k : Int) : ∀ ns : List Int, inV (.int k) (ns.map V.int) = decide (k ∈ ns)
  | [] => by simp [inV]
  | y :: r => by
    have ih := inV_int k r
    unfold inV at ih ⊢
    rw [List.map_cons, List.any_cons, ih]
    by_cases h : k = y
    · subst h; simp [eqV]
    · have h2 : y ≠ k := fun e => h e.symm
      simp [eqV, h, h2]
theorem inV_nonI : ∀ ns : List Int, inV .non (ns.map V.int) = false
  | [] => by simp [inV]
  | y :: r => by
    have ih := inV_nonI r
    unfold inV at ih ⊢
    rw [List.map_cons, List.any_cons, ih]
    simp [eqV]
theorem flat_ints (ns : List Int) : (ns.map V.int).all flatV = true := by rw [List.all_eq_true]; intro v hv; obtain ⟨y, _, rfl⟩ := List.mem_map.mp hv; rfl
section
variable {K : PySem.W.Frag} {H : Hp} {Q : VK} {a : Addr} {ns : List Int} {k : Int}
theorem c_inI (h : SqL K H a (ns.map V.int)) (q : Q (.bl (decide (k ∈ ns))) H) : rInU K (.int k) (.ref a) H Q := .inr (.inr ⟨a, _, rfl, .inl h, rfl, flat_ints ns, by rw [inV_int]; exact q⟩)
theorem c_notInI (h : SqL K H a (ns.map V.int)) (q : Q (.bl (!decide (k ∈ ns))) H) : rNotInU K (.int k) (.ref a) H Q := .inr (.inr ⟨a, _, rfl, .inl h, rfl, flat_ints ns, by rw [inV_int]; exact q⟩)
theorem c_notInN (h : SqL K H a (ns.map V.int)) (q : Q (.bl true) H) : rNotInU K .non (.ref a) H Q := .inr (.inr ⟨a, _, rfl, .inl h, rfl, flat_ints ns, by rw [inV_nonI]; exact q⟩)
end
theorem c_eqIN {K : PySem.W.Frag} {H : Hp} {Q : VK} {k : Int} (q : Q (.bl false) H) : rEqU K (.int k) .non H Q := c_eqD (d := .int k) (e := .none) (.int k) .non rfl rfl q
theorem c_neIN {K : PySem.W.Frag} {H : Hp} {Q : VK} {k : Int} (q : Q (.bl true) H) : rNeU K (.int k) .non H Q := c_neD (d := .int k) (e := .none) (.int k) .non rfl rfl q
theorem mem_cast (k : Nat) (l : List Nat) : ((k : Int) ∈ l.map fun n => ((n : Nat) : Int)) ↔ k ∈ l := by
  rw [List.mem_map]
  exact ⟨fun ⟨n, h, e⟩ => by have : n = k := by omega
                             rw [← this]; exact h, fun h => ⟨k, h, rfl⟩⟩
theorem erase_cast (k : Nat) : ∀ l : List Nat, (l.map fun n => ((n : Nat) : Int)).erase (k : Int) = (l.erase k).map fun n => ((n : Nat) : Int)
  | [] => rfl
  | n :: r => by
    by_cases h : n = k
    · subst h
      rw [List.map_cons, List.erase_cons_head, List.erase_cons_head]
    · rw [List.map_cons, List.erase_cons_tail (by simp; omega), List.erase_cons_tail (by simpa using h), erase_cast k r]
      rfl
/-! ## the plain steps -/
def TrS.leave (s : TrS) (k : Nat) : TrS := if k ∈ s.line then { s with line := s.line.erase k, prot := if s.line.head? = some k then false else s.prot, events := if s.line.head? = some k then 0 else s.events } else s
def TrS.sset (s : TrS) (k : Nat) (x : Sess) : TrS := { s with sess := s.sess.set k x }
def firstV (s : TrS) : V := match s.line with
  | [] => .non
  | k :: _ => .int (k : Nat)
section
variable {K : PySem.W.Frag} {H H' : Hp} {A : TrA} {s : TrS}
structure NdA (A : TrA) : Prop where
  t1 : A.t ≠ A.tl
  t2 : A.t ≠ A.el
  t3 : A.t ≠ A.sl
  t4 : A.t ≠ A.li
  t5 : A.t ≠ A.ll
  l1 : A.tl ≠ A.el
  l2 : A.tl ≠ A.sl
  l3 : A.tl ≠ A.li
  l4 : A.tl ≠ A.ll
  e1 : A.el ≠ A.sl
  e2 : A.el ≠ A.li
  e3 : A.el ≠ A.ll
  s1 : A.sl ≠ A.li
  s2 : A.sl ≠ A.ll
  i1 : A.li ≠ A.ll
  ss : ∀ a ∈ A.ss, a ≠ A.t ∧ a ≠ A.tl ∧ a ≠ A.el ∧ a ≠ A.sl ∧ a ≠ A.li ∧ a ≠ A.ll
  sn : A.ss.Nodup
theorem TrAt.nda (h : TrAt K H A s) : NdA A := by
  have nd := h.nd
  simp only [own, List.cons_append, List.nil_append, List.nodup_cons, List.mem_cons, not_or] at nd
  obtain ⟨⟨a1, a2, a3, a4, a5, a6⟩, ⟨b1, b2, b3, b4, b5⟩, ⟨c1, c2, c3, c4⟩, ⟨d1, d2, d3⟩, ⟨e1, e2⟩, f1, g⟩ := nd
  exact ⟨a1, a2, a3, a4, a5, b1, b2, b3, b4, c1, c2, c3, d1, d2, e1, fun a ha => ⟨fun e => a6 (e ▸ ha), fun e => b5 (e ▸ ha), fun e => c4 (e ▸ ha), fun e => d3 (e ▸ ha), fun e => e2 (e ▸ ha), fun e => f1 (e ▸ ha)⟩, g⟩
/-- one place of its own is written to -/
theorem stp_upd (h : TrAt K H A s) {a : Addr} (ha : a ∈ own A) {o : HO} {s' : TrS} (h' : TrAt K (upd H a o) A s') : Stp K H A (upd H a o) A s' := by
  obtain ⟨o', h1, h2⟩ := h.fat a ha
  exact ⟨h', Kp.mut ha, Fk.mut h1 h2, fun _ h => .inl h, rfl⟩
theorem TrAt.sset (h : TrAt K H A s) {k : Nat} {a : Addr} {x : Sess} (hx : s.sess[k]? = some x) (ha : A.ss[k]? = some a) {x' : Sess} {dx j : Addr} (hj : Dt K H (.ref j) (jourD x'.jour)) :
    Stp K H A (upd H a (.ins (He.ga K "Session") dx (seF (.str x'.nm) (.int (x'.base : Nat)) (.ref j) (.int (x'.refs : Nat)) (.str x'.st)))) A (s.sset k x') := by
  have hm := List.mem_of_getElem? ha
  have nd := h.nda
  obtain ⟨n1, n2, n3, n4, n5, n6⟩ := nd.ss a hm
  obtain ⟨o', g1, g2⟩ := h.fat a (own_ss hm)
  have fk : Fk H (upd H a (.ins (He.ga K "Session") dx (seF (.str x'.nm) (.int (x'.base : Nat)) (.ref j) (.int (x'.refs : Nat)) (.str x'.st)))) := Fk.mut g1 g2
  refine stp_upd h (own_ss hm) ⟨upd_other n1.symm h.t, upd_other n2.symm h.tl, h.tn, fun i b fs h1 h2 => (h.tr i b fs h1 h2).fk fk, upd_other n3.symm h.el, DtAll.kt fk.kt h.es, upd_other n4.symm h.sl, by
    show A.ss.length = (s.sess.set k x').length
    rw [List.length_set]; exact h.sn, fun i b y h1 h2 => ?_, upd_other n5.symm h.li, upd_other n6.symm h.ll, fk _ _ h.ck (fun z => z), fk _ _ h.vd (fun z => z), h.nd⟩
  by_cases e : i = k
  · subst e
    rw [ha] at h1
    obtain rfl := Option.some.inj h1
    have h2 : (s.sess.set i x')[i]? = some y := h2
    rw [List.getElem?_set_self (List.getElem?_eq_some_iff.mp hx).1] at h2
    obtain rfl := Option.some.inj h2
    exact ⟨dx, j, upd_same, Dt.kt fk.kt hj⟩
  · have h2 : (s.sess.set k x')[i]? = some y := h2
    rw [List.getElem?_set_ne (Ne.symm e)] at h2
    have nb : b ≠ a := fun z => e ((List.getElem?_inj (List.getElem?_eq_some_iff.mp h1).1 nd.sn).mp (by rw [h1, ha, z]))
    exact (h.se i b y h1 h2).fr (by rw [upd_ne nb]) fk
theorem TrAt.liset (h : TrAt K H A s) {p : Bool} {n : Nat} : Stp K H A (upd H A.li (.ins (He.ga K "Line") A.dy (liF (.ref A.ll) (.bl p) (.int (n : Nat))))) A { s with prot := p, events := n } := by
  have nd := h.nda
  obtain ⟨o', g1, g2⟩ := h.fat A.li own_li
  have fk : Fk H (upd H A.li (.ins (He.ga K "Line") A.dy (liF (.ref A.ll) (.bl p) (.int (n : Nat))))) := Fk.mut g1 g2
  exact stp_upd h own_li ⟨upd_other nd.t4 h.t, upd_other nd.l3 h.tl, h.tn, fun i b fs h1 h2 => (h.tr i b fs h1 h2).fk fk, upd_other nd.e2 h.el, DtAll.kt fk.kt h.es, upd_other nd.s1 h.sl, h.sn,
    fun i b y h1 h2 => (h.se i b y h1 h2).fr (by rw [upd_ne (nd.ss b (List.mem_of_getElem? h1)).2.2.2.2.1]) fk, upd_same, upd_other nd.i1.symm h.ll, fk _ _ h.ck (fun z => z), fk _ _ h.vd (fun z => z), h.nd⟩
theorem TrAt.llset (h : TrAt K H A s) {l : List Nat} : Stp K H A (upd H A.ll (.lst ((l.map fun n => ((n : Nat) : Int)).map V.int))) A { s with line := l } := by
  have nd := h.nda
  obtain ⟨o', g1, g2⟩ := h.fat A.ll own_ll
  have fk : Fk H (upd H A.ll (.lst ((l.map fun n => ((n : Nat) : Int)).map V.int))) := Fk.mut g1 g2
  exact stp_upd h own_ll ⟨upd_other nd.t5 h.t, upd_other nd.l4 h.tl, h.tn, fun i b fs h1 h2 => (h.tr i b fs h1 h2).fk fk, upd_other nd.e3 h.el, DtAll.kt fk.kt h.es, upd_other nd.s2 h.sl, h.sn,
    fun i b y h1 h2 => (h.se i b y h1 h2).fr (by rw [upd_ne (nd.ss b (List.mem_of_getElem? h1)).2.2.2.2.2]) fk, upd_other nd.i1 h.li, upd_same, fk _ _ h.ck (fun z => z), fk _ _ h.vd (fun z => z), h.nd⟩
end
section
variable {P : Program} {w : World} {K : PySem.W.Frag} {mg : Str → Option Value} {base : Heap}
def spLiFirst (K : PySem.W.Frag) : Sp := fun vs H Q _ => ∃ (A : TrA) (s : TrS), vs = [.ref A.li] ∧ TrAt K H A s ∧ Q (firstV s) H
theorem sc_Line_first : FnScope ["self"] ["self"] (defScope s_Line_first) := ⟨rfl, rfl, rfl, by decide +kernel, rfl, by decide +kernel, by decide +kernel⟩
theorem bn_Line_first : BindM "first" "Line.first" s_Line_first ["self"] := fun _ _ _ _ _ _ us hl => match us, hl with | [_], _ => rfl
theorem b_Line_first (T : TX K mg) : BodyM P w K mg base "Line" "first" "Line.first" s_Line_first ["self"] 1 (spLiFirst K) := by
  intro cdv A outer s H vs Q E h X hr
  obtain ⟨A, s, rfl, h, q⟩ := h
  refine ⟨_, (pss_one (ps_ret (pe_ifExp (pt_tru (K := K) (pe_fldU (K := K) (pv 0))) (pe_ix (ix_U (K := K)) (pe_fldU (K := K) (pv 0)) pe_int (fun _ _ => rfl)) pe_non))), ?_⟩
  have hli := h.li
  have hll : SqL K H A.ll ((s.line.map fun n => ((n : Nat) : Int)).map V.int) := SqL.of h.ll
  unfold firstV at q
  walk_at "st"
  refine c_truL hll ?_
  cases hl : s.line with
  | nil =>
    rw [hl] at q
    walk_at "dc"
    exact q
  | cons k r =>
    rw [hl] at q hll
    walk_at "dc"
    first | exact q | exact c_ixL (v := .int (k : Nat)) hll (by simp [atI, ixN]) q
theorem M_Line_first (T : TX K mg) : MethAt P w K mg base CX0 "Line" "first" 2 ["self"] (spLiFirst K) :=
  meth_of T 73 106 sc_Line_first bn_Line_first (by walk_at "len") (b_Line_first T)
def spLiLeave (K : PySem.W.Frag) : Sp := fun vs H Q _ => ∃ (A : TrA) (s : TrS) (v : V), vs = [.ref A.li, v] ∧ TrAt K H A s ∧ s.line.length ≤ 1000 ∧ ((v = .non ∧ Q .non H) ∨ ∃ k : Nat, v = .int (k : Nat) ∧ ∀ H', Stp K H A H' A (s.leave k) → Q .non H')
theorem sc_Line_leave : FnScope ["self", "session"] ["self", "session"] (defScope s_Line_leave) := ⟨rfl, rfl, rfl, by decide +kernel, rfl, by decide +kernel, by decide +kernel⟩
theorem bn_Line_leave : BindM "leave" "Line.leave" s_Line_leave ["self", "session"] := fun _ _ _ _ _ _ us hl => match us, hl with | [_, _], _ => rfl
theorem b_Line_leave (T : TX K mg) : BodyM P w K mg base "Line" "leave" "Line.leave" s_Line_leave ["self", "session"] 1 (spLiLeave K) := by
  intro cdv A outer s H vs Q E h X hr
  obtain ⟨A, s, v, rfl, h, hn, q⟩ := h
  refine ⟨_, (pss_cons (ps_if (pt_cmpR (op_notInU (K := K)) (pv 1) (pe_fldU (K := K) (pv 0)) rfl) (pss_one ps_retN) pss_nil) (Evl.pss_cut (ps_if (pt_cmpR (op_eqU (K := K) hr.units) (pv 1) (pe_ix (ix_U (K := K)) (pe_fldU (K := K) (pv 0)) pe_int (fun _ _ => rfl)) (nomark _)) (pss_cons (ps_fldU (K := K) (pv 0) pe_bl) (pss_one (ps_fldU (K := K) (pv 0) pe_int))) pss_nil) (pss_one (ps_expr (pe_removeIU (K := K) (pe_fldU (K := K) (pv 0)) (pv 1)))))), ?_⟩
  have hli := h.li
  have hll : SqL K H A.ll ((s.line.map fun n => ((n : Nat) : Int)).map V.int) := SqL.of h.ll
  rcases q with ⟨rfl, q⟩ | ⟨k, rfl, q⟩
  · walk_at "st"
    refine c_notInN hll ?_
    walk_at "st"
    exact q
  · walk_at "st"
    refine c_notInI hll ?_
    rw [decide_eq_decide.mpr (mem_cast k s.line)]
    walk_at "st"
    refine c_iteN (fun g => ?_) (fun g => ?_)
    · walk_at "st"
      refine q H ?_
      unfold TrS.leave
      rw [if_neg g]
      exact Stp.refl h Kp.refl
    · unfold TrS.leave at q
      rw [if_pos g] at q
      obtain ⟨k0, r, hl⟩ : ∃ k0 r, s.line = k0 :: r := by
        cases hl : s.line with
        | nil => rw [hl] at g; cases g
        | cons k0 r => exact ⟨k0, r, rfl⟩
      have hd : decide (s.line.head? = some k) = decide ((k : Int) = (k0 : Int)) := by
        rw [hl, List.head?_cons, Bool.eq_iff_iff, decide_eq_true_eq, decide_eq_true_eq, Option.some_inj]
        omega
      walk_at "st"
      refine c_cut (fun σ' H' => σ' = [some (.ref A.li), some (.int (k : Nat))] ∧ Stp K H A H' A { s with prot := if s.line.head? = some k then false else s.prot, events := if s.line.head? = some k then 0 else s.events }) ?_ ?_
      · walk_at "st"
        have hll0 := hll
        rw [hl] at hll0
        first | (refine c_ixL (v := .int (k0 : Nat)) hll0 (by simp [atI, ixN]) ?_; walk_at "st") | skip
        refine c_ite (fun g2 => ?_) (fun g2 => ?_)
        · have g3 : s.line.head? = some k := of_decide_eq_true (by rw [hd]; exact decide_eq_true g2)
          walk_at "st"
          simp only [upd_upd]
          refine ⟨rfl, ?_⟩
          rw [if_pos g3, if_pos g3]
          exact h.liset (p := false) (n := 0)
        · have g3 : ¬ s.line.head? = some k := of_decide_eq_false (by rw [hd]; exact decide_eq_false g2)
          walk_at "st"
          refine ⟨rfl, ?_⟩
          rw [if_neg g3, if_neg g3]
          exact Stp.refl h Kp.refl
      rintro _ H1 ⟨rfl, e1⟩
      have h1 := e1.at_
      have hli1 := h1.li
      walk_at "st"
      refine c_tyA (SqL.of h1.ll) ?_
      walk_at "st"
      refine c_remI (ns := s.line.map fun n => ((n : Nat) : Int)) h1.ll ((mem_cast k s.line).mpr g) ?_
      rw [erase_cast]
      walk_at "st"
      exact q _ (e1.trans (h1.llset (l := s.line.erase k)) h)
theorem M_Line_leave (T : TX K mg) : MethAt P w K mg base CX0 "Line" "leave" 2 ["self", "session"] (spLiLeave K) :=
  meth_of T 74 107 sc_Line_leave bn_Line_leave (by walk_at "len") (b_Line_leave T)
def spTrClose (K : PySem.W.Frag) : Sp := fun vs H Q E => ∃ (A : TrA) (s : TrS) (i : Int), vs = [.ref A.t, .int i] ∧ TrAt K H A s ∧ s.line.length ≤ 1000 ∧
  (∀ (k : Nat) x H', i = (k : Int) → s.sess[k]? = some x → x.st = "open" → Stp K H A H' A ((s.sset k { x with st := "closed" }).leave k) → Q .non H') ∧ ((∀ (k : Nat) x, i = (k : Int) → s.sess[k]? = some x → x.st ≠ "open") → E (.ref (He.ga K "NoSession")) none H)
theorem sc_Trunk_close : FnScope ["self", "session", "found"] ["self", "session"] (defScope s_Trunk_close) := ⟨rfl, rfl, rfl, by decide +kernel, rfl, by decide +kernel, by decide +kernel⟩
theorem bn_Trunk_close : BindM "close" "Trunk.close" s_Trunk_close ["self", "session"] := fun _ _ _ _ _ _ us hl => match us, hl with | [_, _], _ => rfl
theorem b_Trunk_close (T : TX K mg) : BodyMX P w K mg base "Trunk" "close" "Trunk.close" s_Trunk_close ["self", "session", "found"] 3 (spTrClose K) := by
  intro cdv A outer s H vs Q E h X hr tk
  obtain ⟨A, s, i, rfl, h, hn, q1, q2⟩ := h
  have C_Line := C_Line T; have C_Trunk := C_Trunk T; have M_Line_leave := M_Line_leave (P := P) (w := w) (base := base) T; have M_Trunk__opened := M_Trunk__opened (P := P) (w := w) (base := base) T
  refine ⟨_, (pss_cons (ps_set (i := 2) sc_Trunk_close.nd rfl (Or.inl rfl) (pe_methS1 M_Trunk__opened C_Trunk hr (atW tk) (pv 0) (pa_cons (pv 1) pa_nil))) (pss_cons (ps_fldU (K := K) (pv 2) pe_str) (pss_one (ps_expr (pe_methS1 M_Line_leave C_Line hr at0 (pe_fldU (K := K) (pv 0)) (pa_cons (pv 1) pa_nil)))))), ?_⟩
  have ht := h.t
  walk_at "st"
  refine ⟨A, s, i, rfl, h, fun k a x e hx ho ha hs => ?_, q2⟩
  obtain ⟨dx, j, h1, h2⟩ := hs.ex
  walk_at "st"
  have e1 := h.sset hx ha (x' := { x with st := "closed" }) (dx := dx) h2
  dsimp only at e1
  generalize (upd H a (HO.ins (He.ga K "Session") dx (seF (.str x.nm) (.int (x.base : Nat)) (.ref j) (.int (x.refs : Nat)) (.str "closed")))) = H1 at e1 ⊢
  have ht1 := e1.at_.t
  have hli1 := e1.at_.li
  subst e
  walk_at "st"
  refine ⟨A, s.sset k { x with st := "closed" }, _, rfl, e1.at_, hn, .inr ⟨k, rfl, fun H2 e2 => ?_⟩⟩
  walk_at "st"
  exact q1 k x H2 rfl hx ho (e1.trans e2 h)
theorem M_Trunk_close (T : TX K mg) : MethAt P w K mg base (L2.CX P w) "Trunk" "close" 4 ["self", "session"] (spTrClose K) :=
  meth_ofX T 102 143 sc_Trunk_close bn_Trunk_close (by walk_at "len") (b_Trunk_close T)
def placeV (s : TrS) (k : Nat) : V := if k ∈ s.line then .int (s.line.idxOf k : Nat) else .non
theorem idx_cast (k : Nat) : ∀ l : List Nat, (l.map fun n => ((n : Nat) : Int)).idxOf (k : Int) = l.idxOf k
  | [] => rfl
  | n :: r => by
    rw [List.map_cons, List.idxOf_cons, List.idxOf_cons, idx_cast k r]
    congr 1
    by_cases h : n = k
    · subst h; simp
    · rw [beq_false_of_ne h, beq_false_of_ne (by omega)]
def spTrPlace (K : PySem.W.Frag) : Sp := fun vs H Q E => ∃ (A : TrA) (s : TrS) (i : Int), vs = [.ref A.t, .int i] ∧ TrAt K H A s ∧
  (∀ (k : Nat) x, i = (k : Int) → s.sess[k]? = some x → Q (placeV s k) H) ∧ (¬ (0 ≤ i ∧ i < s.sess.length) → E (.ref (He.ga K "NoSession")) none H)
theorem sc_Trunk_place : FnScope ["self", "session"] ["self", "session"] (defScope s_Trunk_place) := ⟨rfl, rfl, rfl, by decide +kernel, rfl, by decide +kernel, by decide +kernel⟩
theorem bn_Trunk_place : BindM "place" "Trunk.place" s_Trunk_place ["self", "session"] := fun _ _ _ _ _ _ us hl => match us, hl with | [_, _], _ => rfl
theorem b_Trunk_place (T : TX K mg) : BodyMX P w K mg base "Trunk" "place" "Trunk.place" s_Trunk_place ["self", "session"] 2 (spTrPlace K) := by
  intro cdv A outer s H vs Q E h X hr tk
  obtain ⟨A, s, i, rfl, h, q1, q2⟩ := h
  have C_Trunk := C_Trunk T; have M_Trunk__known := M_Trunk__known (P := P) (w := w) (base := base) T
  refine ⟨_, (pss_cons (ps_expr (pe_methS1 M_Trunk__known C_Trunk hr (atW tk) (pv 0) (pa_cons (pv 1) pa_nil))) (pss_one (ps_ret (pe_ifExp (pt_cmpR (op_inU (K := K)) (pv 1) (pe_fldU (K := K) (pe_fldU (K := K) (pv 0))) rfl) (pe_indexIU (K := K) (pe_fldU (K := K) (pe_fldU (K := K) (pv 0))) (pv 1)) pe_non)))), ?_⟩
  have ht := h.t
  have hli := h.li
  have hll : SqL K H A.ll ((s.line.map fun n => ((n : Nat) : Int)).map V.int) := SqL.of h.ll
  walk_at "st"
  refine ⟨A, s, i, rfl, h, fun k a x e hx ha hs => ?_, q2⟩
  subst e
  have q := q1 k x rfl hx
  unfold placeV at q
  walk_at "st"
  refine c_inI hll ?_
  rw [decide_eq_decide.mpr (mem_cast k s.line)]
  walk_at "st"
  refine c_ite (fun g => ?_) (fun g => ?_)
  · rw [if_pos g] at q
    walk_at "st"
    refine c_ixI hll ((mem_cast k s.line).mpr g) ?_
    rw [idx_cast]
    exact q
  · rw [if_neg g] at q
    walk_at "st"
    exact q
theorem M_Trunk_place (T : TX K mg) : MethAt P w K mg base (L2.CX P w) "Trunk" "place" 3 ["self", "session"] (spTrPlace K) :=
  meth_ofX T 100 141 sc_Trunk_place bn_Trunk_place (by walk_at "len") (b_Trunk_place T)
def spTrLine (K : PySem.W.Frag) : Sp := fun vs H Q _ => ∃ (A : TrA) (s : TrS), vs = [.ref A.t] ∧ TrAt K H A s ∧ ∀ p H', New H p (.lst ((s.line.map fun n => ((n : Nat) : Int)).map V.int)) H' → Q (.ref p) H'
theorem sc_Trunk_line : FnScope ["self"] ["self"] (defScope s_Trunk_line) := ⟨rfl, rfl, rfl, by decide +kernel, rfl, by decide +kernel, by decide +kernel⟩
theorem bn_Trunk_line : BindM "line" "Trunk.line" s_Trunk_line ["self"] := fun _ _ _ _ _ _ us hl => match us, hl with | [_], _ => rfl
theorem b_Trunk_line (T : TX K mg) : BodyM P w K mg base "Trunk" "line" "Trunk.line" s_Trunk_line ["self"] 1 (spTrLine K) := by
  intro cdv A outer s H vs Q E h X hr
  obtain ⟨A, s, rfl, h, q⟩ := h
  refine ⟨_, (pss_one (ps_ret (pe_callTy (cr_list (K := K)) rfl (T.free 33) (by decide +kernel) (pa_cons (pe_fldU (K := K) (pe_fldU (K := K) (pv 0))) pa_nil)))), ?_⟩
  have ht := h.t
  have hli := h.li
  walk_at "st"
  refine c_listL (SqL.of h.ll) fun p H1 N1 => ?_
  exact q p H1 N1
theorem M_Trunk_line (T : TX K mg) : MethAt P w K mg base CX0 "Trunk" "line" 2 ["self"] (spTrLine K) :=
  meth_of T 103 144 sc_Trunk_line bn_Trunk_line (by walk_at "len") (b_Trunk_line T)
def spTrProt (K : PySem.W.Frag) : Sp := fun vs H Q E => ∃ (A : TrA) (s : TrS) (i : Int), vs = [.ref A.t, .int i] ∧ TrAt K H A s ∧
  (∀ (k : Nat) x, i = (k : Int) → s.sess[k]? = some x → Q (.bl (s.prot && decide (s.line.head? = some k))) H) ∧ (¬ (0 ≤ i ∧ i < s.sess.length) → E (.ref (He.ga K "NoSession")) none H)
theorem sc_Trunk_is_protected : FnScope ["self", "session"] ["self", "session"] (defScope s_Trunk_is_protected) := ⟨rfl, rfl, rfl, by decide +kernel, rfl, by decide +kernel, by decide +kernel⟩
theorem bn_Trunk_is_protected : BindM "is_protected" "Trunk.is_protected" s_Trunk_is_protected ["self", "session"] := fun _ _ _ _ _ _ us hl => match us, hl with | [_, _], _ => rfl
theorem b_Trunk_is_protected (T : TX K mg) : BodyMX P w K mg base "Trunk" "is_protected" "Trunk.is_protected" s_Trunk_is_protected ["self", "session"] 2 (spTrProt K) := by
  intro cdv A outer s H vs Q E h X hr tk
  obtain ⟨A, s, i, rfl, h, q1, q2⟩ := h
  have C_Line := C_Line T; have C_Trunk := C_Trunk T; have M_Line_first := M_Line_first (P := P) (w := w) (base := base) T; have M_Trunk__known := M_Trunk__known (P := P) (w := w) (base := base) T
  refine ⟨_, (pss_cons (ps_expr (pe_methS1 M_Trunk__known C_Trunk hr (atW tk) (pv 0) (pa_cons (pv 1) pa_nil))) (pss_one (ps_ret (pe_and (pe_fldU (K := K) (pe_fldU (K := K) (pv 0))) (pe_one (pe_cmpR (op_eqU (K := K) hr.units) (pv 1) (pe_methS0 M_Line_first C_Line hr at0 (pe_fldU (K := K) (pv 0))) (nomark _))))))), ?_⟩
  have ht := h.t
  have hli := h.li
  walk_at "st"
  refine ⟨A, s, i, rfl, h, fun k a x e hx ha hs => ?_, q2⟩
  subst e
  have q := q1 k x rfl hx
  walk_at "st"
  cases hp : s.prot with
  | false =>
    rw [hp] at q hli
    walk_at "dc"
    exact q
  | true =>
    rw [hp] at q hli
    walk_at "dc"
    refine ⟨A, s, rfl, h, ?_⟩
    unfold firstV
    cases hl : s.line with
    | nil =>
      rw [hl] at q
      refine c_eqIN ?_
      exact q
    | cons k0 r =>
      rw [hl] at q
      refine c_eqI ?_
      have : decide ((k : Int) = (k0 : Int)) = (true && decide ((k0 :: r).head? = some k)) := by
        rw [List.head?_cons, Bool.true_and, Bool.eq_iff_iff, decide_eq_true_eq, decide_eq_true_eq, Option.some_inj]
        omega
      rw [this]
      exact q
theorem M_Trunk_is_protected (T : TX K mg) : MethAt P w K mg base (L2.CX P w) "Trunk" "is_protected" 3 ["self", "session"] (spTrProt K) :=
  meth_ofX T 101 142 sc_Trunk_is_protected bn_Trunk_is_protected (by walk_at "len") (b_Trunk_is_protected T)
end
end K36



namespace K36
open PySem L2 Sa
local macro_rules | `(tactic| walk_at "s1") => `(tactic| first | (with_reducible apply c_dgetK))
local macro_rules | `(tactic| walk_at "s1") => `(tactic| (with_reducible apply c_raiseO))
local macro_rules | `(tactic| walk_at "s1") => `(tactic| first | (with_reducible apply c_un) | (with_reducible apply c_negI))
local macro_rules | `(tactic| walk_at "s1") => `(tactic| first | ((with_reducible apply se_g1 (by assumption)); (· walk_at "lk")) | ((with_reducible apply se_p1 (by assumption)); (· walk_at "lk")) | ((with_reducible apply se_g2 (by assumption)); (· walk_at "lk")) | ((with_reducible apply se_p2 (by assumption)); (· walk_at "lk")) | ((with_reducible apply se_g3 (by assumption)); (· walk_at "lk")) | ((with_reducible apply se_p3 (by assumption)); (· walk_at "lk")) | ((with_reducible apply se_g4 (by assumption)); (· walk_at "lk")) | ((with_reducible apply se_p4 (by assumption)); (· walk_at "lk")) | ((with_reducible apply se_g5 (by assumption)); (· walk_at "lk")) | ((with_reducible apply se_p5 (by assumption)); (· walk_at "lk")) | ((with_reducible apply se_r); (· walk_at "lk"); (· decide +kernel)))
local macro_rules | `(tactic| walk_at "s1") => `(tactic| first | ((with_reducible apply li_g1 (by assumption)); (· walk_at "lk")) | ((with_reducible apply li_p1 (by assumption)); (· walk_at "lk")) | ((with_reducible apply li_g2 (by assumption)); (· walk_at "lk")) | ((with_reducible apply li_p2 (by assumption)); (· walk_at "lk")) | ((with_reducible apply li_g3 (by assumption)); (· walk_at "lk")) | ((with_reducible apply li_p3 (by assumption)); (· walk_at "lk")) | ((with_reducible apply li_r); (· walk_at "lk"); (· decide +kernel)))
local macro_rules | `(tactic| walk_at "s1") => `(tactic| first | ((with_reducible apply tr_g1 (by assumption)); (· walk_at "lk")) | ((with_reducible apply tr_p1 (by assumption)); (· walk_at "lk")) | ((with_reducible apply tr_g2 (by assumption)); (· walk_at "lk")) | ((with_reducible apply tr_p2 (by assumption)); (· walk_at "lk")) | ((with_reducible apply tr_g3 (by assumption)); (· walk_at "lk")) | ((with_reducible apply tr_p3 (by assumption)); (· walk_at "lk")) | ((with_reducible apply tr_g4 (by assumption)); (· walk_at "lk")) | ((with_reducible apply tr_p4 (by assumption)); (· walk_at "lk")) | ((with_reducible apply tr_g5 (by assumption)); (· walk_at "lk")) | ((with_reducible apply tr_p5 (by assumption)); (· walk_at "lk")) | ((with_reducible apply tr_g6 (by assumption)); (· walk_at "lk")) | ((with_reducible apply tr_p6 (by assumption)); (· walk_at "lk")) | ((with_reducible apply tr_g7 (by assumption)); (· walk_at "lk")) | ((with_reducible apply tr_p7 (by assumption)); (· walk_at "lk")) | ((with_reducible apply tr_g8 (by assumption)); (· walk_at "lk")) | ((with_reducible apply tr_p8 (by assumption)); (· walk_at "lk")) | ((with_reducible apply tr_g9 (by assumption)); (· walk_at "lk")) | ((with_reducible apply tr_p9 (by assumption)); (· walk_at "lk")) | ((with_reducible apply tr_r); (· walk_at "lk"); (· decide +kernel)))
set_option pp.maxSteps 1500
section
variable {P : Program} {w : World} {K : PySem.W.Frag} {mg : Str → Option Value} {base : Heap}
def spSeInit (K : PySem.W.Frag) : Sp := fun vs H Q E => ∃ (x dx j : Addr) (nm : Str) (b : Int), vs = [.ref x, .str nm, .int b, .ref j] ∧ H x = some (.ins (He.ga K "Session") dx []) ∧ Q .non (upd H x (.ins (He.ga K "Session") dx (seF (.str nm) (.int b) (.ref j) (.int 0) (.str "open"))))
theorem sc_Session___init__ : FnScope ["self", "name", "base", "journal"] ["self", "name", "base", "journal"] (defScope s_Session___init__) := ⟨rfl, rfl, rfl, by decide +kernel, rfl, by decide +kernel, by decide +kernel⟩
theorem bn_Session___init__ : BindM "__init__" "Session.__init__" s_Session___init__ ["self", "name", "base", "journal"] := fun _ _ _ _ _ _ us hl => match us, hl with | [_, _, _, _], _ => rfl
theorem b_Session___init__ (T : TX K mg) : BodyM P w K mg base "Session" "__init__" "Session.__init__" s_Session___init__ ["self", "name", "base", "journal"] 1 (spSeInit K) := by
  intro cdv A outer s H vs Q E h X hr
  obtain ⟨x, dx, j, nm, b, rfl, hx, q⟩ := h
  refine ⟨_, (pss_cons (ps_fldU (K := K) (pv 0) (pv 1)) (pss_cons (ps_fldU (K := K) (pv 0) (pv 2)) (pss_cons (ps_fldU (K := K) (pv 0) (pv 3)) (pss_cons (ps_fldU (K := K) (pv 0) pe_int) (pss_one (ps_fldU (K := K) (pv 0) pe_str)))))), ?_⟩
  walk_at "st"
  refine se_i1 T hx ?_
  walk_at "st"
  refine se_i2 T upd_same ?_
  walk_at "st"
  refine se_i3 T upd_same ?_
  walk_at "st"
  refine se_i4 T upd_same ?_
  walk_at "st"
  refine se_i5 T upd_same ?_
  walk_at "st"
  simp only [upd_upd]
  exact q
theorem M_Session___init__ (T : TX K mg) : MethAt P w K mg base CX0 "Session" "__init__" 2 ["self", "name", "base", "journal"] (spSeInit K) :=
  meth_of T 71 103 sc_Session___init__ bn_Session___init__ (by walk_at "len") (b_Session___init__ T)
theorem c_newSe {H : Hp} {nm : Str} {b : Int} {j : Addr} {Q : VK} {E : XK} (q : ∀ x dx H', Kp [] H H' → H x = none → H' x = some (.ins (He.ga K "Session") dx (seF (.str nm) (.int b) (.ref j) (.int 0) (.str "open"))) → Q (.ref x) H') : NewK K "Session" (spSeInit K) [.str nm, .int b, .ref j] H Q E := by
  intro x dx h1 h2 h3
  have k1 : Kp [] H (upd H dx (.own x)) := Kp.new h2
  have hx : upd H dx (.own x) x = none := by rw [upd_ne (Ne.symm h3)]; exact h1
  have k2 : Kp [] H (upd (upd H dx (.own x)) x (.ins (He.ga K "Session") dx [])) := k1.trans (Kp.new hx)
  exact ⟨x, dx, j, nm, b, rfl, upd_same, ⟨rfl, q x dx _ (Kp.drop_fresh (k2.mono.trans (Kp.mut (by simp))) h1) h1 upd_same⟩⟩
def spLiInit (K : PySem.W.Frag) : Sp := fun vs H Q E => ∃ (x dx : Addr), vs = [.ref x] ∧ H x = some (.ins (He.ga K "Line") dx []) ∧ ∀ l H', Kp [x] H H' → H l = none → H' x = some (.ins (He.ga K "Line") dx (liF (.ref l) (.bl false) (.int 0))) → H' l = some (.lst []) → Q .non H'
theorem sc_Line___init__ : FnScope ["self"] ["self"] (defScope s_Line___init__) := ⟨rfl, rfl, rfl, by decide +kernel, rfl, by decide +kernel, by decide +kernel⟩
theorem bn_Line___init__ : BindM "__init__" "Line.__init__" s_Line___init__ ["self"] := fun _ _ _ _ _ _ us hl => match us, hl with | [_], _ => rfl
theorem b_Line___init__ (T : TX K mg) : BodyM P w K mg base "Line" "__init__" "Line.__init__" s_Line___init__ ["self"] 1 (spLiInit K) := by
  intro cdv A outer s H vs Q E h X hr
  obtain ⟨x, dx, rfl, hx, q⟩ := h
  refine ⟨_, (pss_cons (ps_fldU (K := K) (pv 0) (pe_lst pa_nil)) (pss_cons (ps_fldU (K := K) (pv 0) pe_bl) (pss_one (ps_fldU (K := K) (pv 0) pe_int)))), ?_⟩
  walk_at "st"
  walk_at "nw"
  intro l H1 N1
  have h1 := N1.keep hx
  have nl : l ≠ x := fun e => by rw [← e, N1.fr] at hx; cases hx
  walk_at "st"
  refine li_i1 T h1 ?_
  walk_at "st"
  refine li_i2 T upd_same ?_
  walk_at "st"
  refine li_i3 T upd_same ?_
  walk_at "st"
  simp only [upd_upd]
  exact q l _ ((N1.kp (ms := [x])).trans (Kp.mut (by simp))) N1.fr upd_same (upd_other nl N1.at_)
theorem M_Line___init__ (T : TX K mg) : MethAt P w K mg base CX0 "Line" "__init__" 2 ["self"] (spLiInit K) :=
  meth_of T 72 105 sc_Line___init__ bn_Line___init__ (by walk_at "len") (b_Line___init__ T)
theorem c_newLi {H : Hp} {Q : VK} {E : XK} (q : ∀ x l dx H', Kp [] H H' → H x = none → H l = none → l ≠ x → H' x = some (.ins (He.ga K "Line") dx (liF (.ref l) (.bl false) (.int 0))) → H' l = some (.lst []) → Q (.ref x) H') : NewK K "Line" (spLiInit K) [] H Q E := by
  intro x dx h1 h2 h3
  have k1 : Kp [] H (upd H dx (.own x)) := Kp.new h2
  have hx : upd H dx (.own x) x = none := by rw [upd_ne (Ne.symm h3)]; exact h1
  have k2 : Kp [] H (upd (upd H dx (.own x)) x (.ins (He.ga K "Line") dx [])) := k1.trans (Kp.new hx)
  refine ⟨x, dx, rfl, upd_same, fun l H' e hl g1 g2 => ⟨rfl, q x l dx H' (Kp.drop_fresh (k2.mono.trans e) h1) h1 (free0 k2 hl) (fun z => ?_) g1 g2⟩⟩
  rw [z, g1] at g2
  cases g2
theorem nofun1 {α : Type} {p : Prop} {i : Nat} {a : α} (h : ([] : List α)[i]? = some a) : p := by cases h
theorem nonek {H H' : Hp} {x a : Addr} (e : Kp [x] H H') (h : H' a = none) (n : a ≠ x) : H a = none := by
  cases q : H a with
  | none => rfl
  | some o => rw [e a o (by simpa using n) q] at h; cases h
def newTr (pat all : Nat) (fs : List File) : TrS := ⟨pat, all, [fs], [], [], [], false, 0, 0⟩
def spTrInit (K : PySem.W.Frag) : Sp := fun vs H Q E => ∃ (x dx tr : Addr) (pat all : Int) (fs : List File), vs = [.ref x, .ref tr, .int pat, .int all] ∧ H x = some (.ins (He.ga K "Trunk") dx []) ∧ TreeG K H tr fs ∧
  (¬ (1 ≤ pat ∧ pat ≤ 9) → RaisesE K H E "patience") ∧ ((1 ≤ pat ∧ pat ≤ 9) → ¬ (1 ≤ all ∧ all ≤ 9) → RaisesE K H E "allowance") ∧
  ((1 ≤ pat ∧ pat ≤ 9) → (1 ≤ all ∧ all ≤ 9) → ∀ A H', A.t = x → Kp [x] H H' → TrAt K H' A (newTr pat.toNat all.toNat fs) → (∀ a ∈ own A, a = x ∨ H a = none) → Q .non H')
theorem sc_Trunk___init__ : FnScope ["self", "tree", "patience", "allowance"] ["self", "tree", "patience", "allowance"] (defScope s_Trunk___init__) := ⟨rfl, rfl, rfl, by decide +kernel, rfl, by decide +kernel, by decide +kernel⟩
theorem bn_Trunk___init__ : BindM "__init__" "Trunk.__init__" s_Trunk___init__ ["self", "tree", "patience", "allowance"] := fun _ _ _ _ _ _ us hl => match us, hl with | [_, _, _, _], _ => rfl
theorem b_Trunk___init__ (T : TX K mg) : BodyMX P w K mg base "Trunk" "__init__" "Trunk.__init__" s_Trunk___init__ ["self", "tree", "patience", "allowance"] 3 (spTrInit K) := by
  intro cdv A outer s H vs Q E h X hr tk
  obtain ⟨x, dx, tr, pat, all, fs, rfl, hx, hT, q1, q2, q3⟩ := h
  have C_Line := C_Line T; have E_OutOfRange := E_OutOfRange (P := P) (w := w) (base := base) T; have M_Line___init__ := M_Line___init__ (P := P) (w := w) (base := base) T; have Mk_Line := Mk_Line T
  refine ⟨_, (pss_cons (ps_if (pt_not (pt_chain op_leU op_leU pe_int (pv 2) (pe_gInt (T.int 90)))) (pss_one (ps_raiseE (K := K) E_OutOfRange hr tk (pa_cons pe_str pa_nil))) pss_nil) (pss_cons (ps_if (pt_not (pt_chain op_leU op_leU pe_int (pv 3) (pe_gInt (T.int 90)))) (pss_one (ps_raiseE (K := K) E_OutOfRange hr tk (pa_cons pe_str pa_nil))) pss_nil) (pss_cons (ps_fldU (K := K) (pv 0) (pv 2)) (pss_cons (ps_fldU (K := K) (pv 0) (pv 3)) (pss_cons (ps_fldU (K := K) (pv 0) (pe_lst (pa_cons (pv 1) pa_nil))) (pss_cons (ps_fldU (K := K) (pv 0) (pe_lst pa_nil)) (pss_cons (ps_fldU (K := K) (pv 0) (pe_lst pa_nil)) (pss_cons (ps_fldU (K := K) (pv 0) (pe_new0 M_Line___init__ Mk_Line C_Line hr at0)) (pss_cons (ps_fldU (K := K) (pv 0) pe_dnewK) (pss_cons (ps_fldU (K := K) (pv 0) pe_dnewK) (pss_one (ps_fldU (K := K) (pv 0) pe_int)))))))))))), ?_⟩
  walk_at "st"
  refine c_ite (fun ga => ?_) (fun ga => ?_)
  rotate_left
  · walk_at "st"
    exact c_err fun d H2 N => q1 (fun z => ga z.1) d H2 N.kp N.at_
  walk_at "st"
  refine c_iteN (fun gb => ?_) (fun gb => ?_)
  · walk_at "st"
    exact c_err fun d H2 N => q1 (fun z => gb z.2) d H2 N.kp N.at_
  walk_at "st"
  refine c_ite (fun gc => ?_) (fun gc => ?_)
  rotate_left
  · walk_at "st"
    exact c_err fun d H2 N => q2 ⟨ga, gb⟩ (fun z => gc z.1) d H2 N.kp N.at_
  walk_at "st"
  refine c_iteN (fun gd => ?_) (fun gd => ?_)
  · walk_at "st"
    exact c_err fun d H2 N => q2 ⟨ga, gb⟩ (fun z => gd z.2) d H2 N.kp N.at_
  obtain ⟨p, rfl⟩ : ∃ p : Nat, pat = p := Int.eq_ofNat_of_zero_le (by omega)
  obtain ⟨l0, rfl⟩ : ∃ p : Nat, all = p := Int.eq_ofNat_of_zero_le (by omega)
  have q3 := q3 ⟨ga, gb⟩ ⟨gc, gd⟩
  rw [Int.toNat_natCast, Int.toNat_natCast] at q3
  walk_at "st"
  refine tr_i1 T hx ?_
  walk_at "st"
  refine tr_i2 T upd_same ?_
  walk_at "st"
  simp only [upd_upd]
  generalize hU : upd H x _ = U0
  have h0 := congrFun hU x
  rw [upd_same] at h0
  have h0 := h0.symm
  have k0 : Kp [x] H U0 := by rw [← hU]; exact Kp.mut (by simp)
  clear hU
  walk_at "nw"
  intro tl H1 N1
  have n1 : tl ≠ x := fun z => by have := N1.fr; rw [z, h0] at this; cases this
  have f1 : H tl = none := nonek k0 N1.fr n1
  walk_at "st"
  refine tr_i3 T (N1.keep h0) ?_
  walk_at "st"
  generalize hU : upd H1 x _ = U1
  have h1 := congrFun hU x
  rw [upd_same] at h1
  have h1 := h1.symm
  have k1 : Kp [x] H U1 := by rw [← hU]; exact (k0.trans N1.kp).trans (Kp.mut (by simp))
  have gtl : U1 tl = some (.lst [.ref tr]) := by rw [← hU]; exact upd_other n1 N1.at_
  have mtl := n1
  clear hU
  walk_at "nw"
  intro el H2 N2
  have n2 : el ≠ x := fun z => by have := N2.fr; rw [z, h1] at this; cases this
  have f2 : H el = none := nonek k1 N2.fr n2
  have n2tl : el ≠ tl := fun z => by have := N2.fr; rw [z, gtl] at this; cases this
  walk_at "st"
  refine tr_i4 T (N2.keep h1) ?_
  walk_at "st"
  generalize hU : upd H2 x _ = U2
  have h2 := congrFun hU x
  rw [upd_same] at h2
  have h2 := h2.symm
  have k2 : Kp [x] H U2 := by rw [← hU]; exact (k1.trans N2.kp).trans (Kp.mut (by simp))
  have gtl : U2 tl = some (.lst [.ref tr]) := by rw [← hU]; exact upd_other mtl (N2.keep gtl)
  have gel : U2 el = some (.lst []) := by rw [← hU]; exact upd_other n2 N2.at_
  have mel := n2
  clear hU
  walk_at "nw"
  intro sl H3 N3
  have n3 : sl ≠ x := fun z => by have := N3.fr; rw [z, h2] at this; cases this
  have f3 : H sl = none := nonek k2 N3.fr n3
  have n3tl : sl ≠ tl := fun z => by have := N3.fr; rw [z, gtl] at this; cases this
  have n3el : sl ≠ el := fun z => by have := N3.fr; rw [z, gel] at this; cases this
  walk_at "st"
  refine tr_i5 T (N3.keep h2) ?_
  walk_at "st"
  generalize hU : upd H3 x _ = U3
  have h3 := congrFun hU x
  rw [upd_same] at h3
  have h3 := h3.symm
  have k3 : Kp [x] H U3 := by rw [← hU]; exact (k2.trans N3.kp).trans (Kp.mut (by simp))
  have gtl : U3 tl = some (.lst [.ref tr]) := by rw [← hU]; exact upd_other mtl (N3.keep gtl)
  have gel : U3 el = some (.lst []) := by rw [← hU]; exact upd_other mel (N3.keep gel)
  have gsl : U3 sl = some (.lst []) := by rw [← hU]; exact upd_other n3 N3.at_
  have msl := n3
  clear hU
  refine c_new0 ?_
  refine c_newLi fun li ll dy H4 e4 fli fll nll g4 gll => ?_
  have f4 : H li = none := nonek k3 fli (fun z => by rw [z, h3] at fli; cases fli)
  have f5 : H ll = none := nonek k3 fll (fun z => by rw [z, h3] at fll; cases fll)
  have m4 : li ≠ x := fun z => by rw [z, h3] at fli; cases fli
  have m5 : ll ≠ x := fun z => by rw [z, h3] at fll; cases fll
  have q4tl : li ≠ tl := fun z => by rw [z, gtl] at fli; cases fli
  have q5tl : ll ≠ tl := fun z => by rw [z, gtl] at fll; cases fll
  have q4el : li ≠ el := fun z => by rw [z, gel] at fli; cases fli
  have q5el : ll ≠ el := fun z => by rw [z, gel] at fll; cases fll
  have q4sl : li ≠ sl := fun z => by rw [z, gsl] at fli; cases fli
  have q5sl : ll ≠ sl := fun z => by rw [z, gsl] at fll; cases fll
  walk_at "st"
  refine tr_i6 T (e4.at0 h3) ?_
  walk_at "st"
  generalize hU : upd H4 x _ = U4
  have h4 := congrFun hU x
  rw [upd_same] at h4
  have h4 := h4.symm
  have k4 : Kp [x] H U4 := by rw [← hU]; exact (k3.trans e4.mono).trans (Kp.mut (by simp))
  have gtl : U4 tl = some (.lst [.ref tr]) := by rw [← hU]; exact upd_other mtl (e4.at0 gtl)
  have gel : U4 el = some (.lst []) := by rw [← hU]; exact upd_other mel (e4.at0 gel)
  have gsl : U4 sl = some (.lst []) := by rw [← hU]; exact upd_other msl (e4.at0 gsl)
  have g4 : U4 li = some (.ins (He.ga K "Line") dy (liF (.ref ll) (.bl false) (.int 0))) := by rw [← hU]; exact upd_other m4 g4
  have gll : U4 ll = some (.lst []) := by rw [← hU]; exact upd_other m5 gll
  clear hU
  refine c_dnew fun ck H5 N5 => ?_
  have m6 : ck ≠ x := fun z => by have := N5.fr; rw [z, h4] at this; cases this
  walk_at "st"
  refine tr_i7 T (N5.keep h4) ?_
  walk_at "st"
  generalize hU : upd H5 x _ = U5
  have h5 := congrFun hU x
  rw [upd_same] at h5
  have h5 := h5.symm
  have k5 : Kp [x] H U5 := by rw [← hU]; exact (k4.trans N5.kp).trans (Kp.mut (by simp))
  have k45 : Kp [x] U4 U5 := by rw [← hU]; exact (N5.kp (ms := [x])).trans (Kp.mut (by simp))
  have gck : U5 ck = some (.dK []) := by rw [← hU]; exact upd_other m6 N5.at_
  clear hU
  refine c_dnew fun vd H6 N6 => ?_
  have m7 : vd ≠ x := fun z => by have := N6.fr; rw [z, h5] at this; cases this
  walk_at "st"
  refine tr_i8 T (N6.keep h5) ?_
  walk_at "st"
  refine tr_i9 T upd_same ?_
  walk_at "st"
  simp only [upd_upd]
  generalize hU : upd H6 x _ = U6
  have h6 := congrFun hU x
  rw [upd_same] at h6
  have h6 := h6.symm
  have k6 : Kp [x] H U6 := by rw [← hU]; exact (k5.trans N6.kp).trans (Kp.mut (by simp))
  have k56 : Kp [x] U5 U6 := by rw [← hU]; exact (N6.kp (ms := [x])).trans (Kp.mut (by simp))
  have gvd : U6 vd = some (.dK []) := by rw [← hU]; exact upd_other m7 N6.at_
  clear hU
  have k46 := k45.trans k56
  have fk : Fk H U6 := kp_fkm k6 fun m hm o ho => by
    rw [List.mem_singleton.mp hm, hx] at ho
    obtain rfl := Option.some.inj ho
    show 0 ≠ 1
    omega
  refine q3 ⟨x, tl, el, sl, li, ll, ck, vd, dx, dy, [tr], [], []⟩ U6 rfl k6 ⟨h6, k46.at1 mtl gtl, rfl, fun i a gs h1 h2 => ?_, k46.at1 mel gel, .nil, k46.at1 msl gsl, rfl, fun i a y h1 _ => nofun1 h1, k46.at1 m4 g4, k46.at1 m5 gll, k56.at1 m6 gck, gvd, ?_⟩ fun a ha => ?_
  · cases i with
    | zero =>
      obtain rfl := Option.some.inj h1
      obtain rfl := Option.some.inj h2
      exact hT.fk fk
    | succ i => cases h1
  · simp only [own, List.append_nil, List.nodup_cons, List.mem_cons, List.not_mem_nil, or_false, not_or, List.nodup_nil, and_true, not_false_eq_true]
    exact ⟨⟨Ne.symm mtl, Ne.symm mel, Ne.symm msl, Ne.symm m4, Ne.symm m5⟩, ⟨Ne.symm n2tl, Ne.symm n3tl, Ne.symm q4tl, Ne.symm q5tl⟩, ⟨Ne.symm n3el, Ne.symm q4el, Ne.symm q5el⟩, ⟨Ne.symm q4sl, Ne.symm q5sl⟩, Ne.symm nll⟩
  · simp only [own, List.append_nil, List.mem_cons, List.not_mem_nil, or_false] at ha
    rcases ha with rfl | rfl | rfl | rfl | rfl | rfl
    · exact .inl rfl
    · exact .inr f1
    · exact .inr f2
    · exact .inr f3
    · exact .inr f4
    · exact .inr f5
theorem M_Trunk___init__ (T : TX K mg) : MethAt P w K mg base (L2.CX P w) "Trunk" "__init__" 4 ["self", "tree", "patience", "allowance"] (spTrInit K) :=
  meth_ofX T 77 110 sc_Trunk___init__ bn_Trunk___init__ (by walk_at "len") (b_Trunk___init__ T)
theorem c_newTr {H : Hp} {tr : Addr} {pat all : Int} {fs : List File} {Q : VK} {E : XK} (hT : TreeG K H tr fs) (hp : 1 ≤ pat ∧ pat ≤ 9) (ha : 1 ≤ all ∧ all ≤ 9) (q : ∀ A H', Kp [] H H' → TrAt K H' A (newTr pat.toNat all.toNat fs) → (∀ a ∈ own A, H a = none) → Q (.ref A.t) H') : NewK K "Trunk" (spTrInit K) [.ref tr, .int pat, .int all] H Q E := by
  intro x dx h1 h2 h3
  have k1 : Kp [] H (upd H dx (.own x)) := Kp.new h2
  have hx : upd H dx (.own x) x = none := by rw [upd_ne (Ne.symm h3)]; exact h1
  have k2 : Kp [] H (upd (upd H dx (.own x)) x (.ins (He.ga K "Trunk") dx [])) := k1.trans (Kp.new hx)
  refine ⟨x, dx, tr, pat, all, fs, rfl, upd_same, hT.kp k2, fun z => absurd hp z, fun _ z => absurd ha z, fun _ _ A H' eA e at_ ow => ⟨rfl, ?_⟩⟩
  have g := q A H' (Kp.drop_fresh (k2.mono.trans e) h1) at_ fun a hm => by
    rcases ow a hm with z | z
    · rw [z]; exact h1
    · exact free0 k2 z
  rw [eA] at g
  exact g
end
end K36



namespace K36
open PySem L2 Sa
local macro_rules | `(tactic| walk_at "s1") => `(tactic| first | (with_reducible apply c_dgetK))
local macro_rules | `(tactic| walk_at "s1") => `(tactic| (with_reducible apply c_raiseO))
local macro_rules | `(tactic| walk_at "s1") => `(tactic| first | (with_reducible apply c_un) | (with_reducible apply c_negI))
local macro_rules | `(tactic| walk_at "s1") => `(tactic| first | ((with_reducible apply se_g1 (by assumption)); (· walk_at "lk")) | ((with_reducible apply se_p1 (by assumption)); (· walk_at "lk")) | ((with_reducible apply se_g2 (by assumption)); (· walk_at "lk")) | ((with_reducible apply se_p2 (by assumption)); (· walk_at "lk")) | ((with_reducible apply se_g3 (by assumption)); (· walk_at "lk")) | ((with_reducible apply se_p3 (by assumption)); (· walk_at "lk")) | ((with_reducible apply se_g4 (by assumption)); (· walk_at "lk")) | ((with_reducible apply se_p4 (by assumption)); (· walk_at "lk")) | ((with_reducible apply se_g5 (by assumption)); (· walk_at "lk")) | ((with_reducible apply se_p5 (by assumption)); (· walk_at "lk")) | ((with_reducible apply se_r); (· walk_at "lk"); (· decide +kernel)))
local macro_rules | `(tactic| walk_at "s1") => `(tactic| first | ((with_reducible apply li_g1 (by assumption)); (· walk_at "lk")) | ((with_reducible apply li_p1 (by assumption)); (· walk_at "lk")) | ((with_reducible apply li_g2 (by assumption)); (· walk_at "lk")) | ((with_reducible apply li_p2 (by assumption)); (· walk_at "lk")) | ((with_reducible apply li_g3 (by assumption)); (· walk_at "lk")) | ((with_reducible apply li_p3 (by assumption)); (· walk_at "lk")) | ((with_reducible apply li_r); (· walk_at "lk"); (· decide +kernel)))
local macro_rules | `(tactic| walk_at "s1") => `(tactic| first | ((with_reducible apply tr_g1 (by assumption)); (· walk_at "lk")) | ((with_reducible apply tr_p1 (by assumption)); (· walk_at "lk")) | ((with_reducible apply tr_g2 (by assumption)); (· walk_at "lk")) | ((with_reducible apply tr_p2 (by assumption)); (· walk_at "lk")) | ((with_reducible apply tr_g3 (by assumption)); (· walk_at "lk")) | ((with_reducible apply tr_p3 (by assumption)); (· walk_at "lk")) | ((with_reducible apply tr_g4 (by assumption)); (· walk_at "lk")) | ((with_reducible apply tr_p4 (by assumption)); (· walk_at "lk")) | ((with_reducible apply tr_g5 (by assumption)); (· walk_at "lk")) | ((with_reducible apply tr_p5 (by assumption)); (· walk_at "lk")) | ((with_reducible apply tr_g6 (by assumption)); (· walk_at "lk")) | ((with_reducible apply tr_p6 (by assumption)); (· walk_at "lk")) | ((with_reducible apply tr_g7 (by assumption)); (· walk_at "lk")) | ((with_reducible apply tr_p7 (by assumption)); (· walk_at "lk")) | ((with_reducible apply tr_g8 (by assumption)); (· walk_at "lk")) | ((with_reducible apply tr_p8 (by assumption)); (· walk_at "lk")) | ((with_reducible apply tr_g9 (by assumption)); (· walk_at "lk")) | ((with_reducible apply tr_p9 (by assumption)); (· walk_at "lk")) | ((with_reducible apply tr_r); (· walk_at "lk"); (· decide +kernel)))
set_option pp.maxSteps 1500
def TrS.opn (s : TrS) : Nat := (s.sess.filter fun x => decide (x.st = ("open" : Str))).length
def TrS.add (s : TrS) (x : Sess) : TrS := { s with sess := s.sess ++ [x] }
def d0S : Sess := ⟨Str.empty, 0, [], 0, Str.empty⟩
theorem opn_eq (xs : List Sess) : ((List.range xs.length).filter fun i => decide ((xs.getD i d0S).st = ("open" : Str))).length = (xs.filter fun x => decide (x.st = ("open" : Str))).length := by
  have : xs = (List.range xs.length).map fun i => xs.getD i d0S := by
    apply List.ext_getElem?
    intro n
    rw [List.getElem?_map]
    by_cases hn : n < xs.length
    · rw [List.getElem?_range hn, List.getElem?_eq_getElem hn]
      simp [List.getD_eq_getElem?_getD, List.getElem?_eq_getElem hn]
    · rw [List.getElem?_eq_none (by omega), List.getElem?_eq_none (by rw [List.length_range]; omega)]
      rfl
  conv => rhs; rw [this]
  rw [List.filter_map, List.length_map]
  rfl
section
variable {P : Program} {w : World} {K : PySem.W.Frag} {mg : Str → Option Value} {base : Heap}
theorem SessAt.kp {H H' : Hp} {a : Addr} {x : Sess} (h : SessAt K H a x) (e : Kp [] H H') : SessAt K H' a x := by
  obtain ⟨dx, j, h1, h2⟩ := h.ex
  exact ⟨dx, j, e.at0 h1, Dt.kp h2 e⟩
theorem TrAt.addS {H : Hp} {A : TrA} {s : TrS} {a : Addr} {x : Sess} (h : TrAt K H A s) (hs : SessAt K H a x) (na : a ∉ own A) :
    TrAt K (upd H A.sl (.lst ((A.ss ++ [a]).map V.ref))) { A with ss := A.ss ++ [a] } (s.add x) ∧ Kp (own A) H (upd H A.sl (.lst ((A.ss ++ [a]).map V.ref))) ∧ Fk H (upd H A.sl (.lst ((A.ss ++ [a]).map V.ref))) := by
  have nd := h.nda
  obtain ⟨o', g1, g2⟩ := h.fat A.sl own_sl
  have fk : Fk H (upd H A.sl (.lst ((A.ss ++ [a]).map V.ref))) := Fk.mut g1 g2
  have nas : a ≠ A.sl := fun e => na (e ▸ own_sl)
  refine ⟨⟨upd_other nd.t3 h.t, upd_other nd.l2 h.tl, h.tn, fun i b fs h1 h2 => (h.tr i b fs h1 h2).fk fk, upd_other nd.e1 h.el, DtAll.kt fk.kt h.es, upd_same, by
    show (A.ss ++ [a]).length = (s.sess ++ [x]).length
    rw [List.length_append, List.length_append, h.sn]; rfl, fun i b y h1 h2 => ?_, upd_other nd.s1.symm h.li, upd_other nd.s2.symm h.ll, fk _ _ h.ck (fun z => z), fk _ _ h.vd (fun z => z), ?_⟩, Kp.mut own_sl, fk⟩
  · have h1 : (A.ss ++ [a])[i]? = some b := h1
    have h2 : (s.sess ++ [x])[i]? = some y := h2
    by_cases hi : i < A.ss.length
    · rw [List.getElem?_append_left hi] at h1
      rw [List.getElem?_append_left (by rw [← h.sn]; exact hi)] at h2
      exact (h.se i b y h1 h2).fr (by rw [upd_ne (nd.ss b (List.mem_of_getElem? h1)).2.2.2.1]) fk
    · rw [List.getElem?_append_right (by omega)] at h1
      rw [List.getElem?_append_right (by rw [← h.sn]; omega), ← h.sn] at h2
      cases hz : i - A.ss.length with
      | zero =>
        rw [hz] at h1 h2
        obtain rfl := Option.some.inj h1
        obtain rfl := Option.some.inj h2
        exact hs.fr (by rw [upd_ne nas]) fk
      | succ n => rw [hz] at h1; cases h1
  · have e : own { A with ss := A.ss ++ [a] } = own A ++ [a] := by simp [own]
    rw [e, List.nodup_append]
    exact ⟨h.nd, by simp, fun b hb c hc z => na (by rw [← List.mem_singleton.mp hc, ← z]; exact hb)⟩
def spTrAdd (K : PySem.W.Frag) : Sp := fun vs H Q E => ∃ (A : TrA) (s : TrS) (a : Addr) (x : Sess), vs = [.ref A.t, .ref a] ∧ TrAt K H A s ∧ SessAt K H a x ∧ a ∉ own A ∧ s.sess.length ≤ 1000 ∧
  (s.opn = 6 → NoS K H E "TooManySessions") ∧ (s.opn ≠ 6 → ∀ H', TrAt K H' { A with ss := A.ss ++ [a] } (s.add x) → Kp (own A) H H' → Fk H H' → Q (.int (s.sess.length : Nat)) H')
theorem sc_Trunk__add : FnScope ["self", "session", "other"] ["self", "session"] (defScope s_Trunk__add) := ⟨rfl, rfl, rfl, by decide +kernel, rfl, by decide +kernel, by decide +kernel⟩
theorem bn_Trunk__add : BindM "_add" "Trunk._add" s_Trunk__add ["self", "session"] := fun _ _ _ _ _ _ us hl => match us, hl with | [_, _], _ => rfl
theorem b_Trunk__add (T : TX K mg) : BodyMX P w K mg base "Trunk" "_add" "Trunk._add" s_Trunk__add ["self", "session", "other"] 1 (spTrAdd K) := by
  intro cdv A outer s H vs Q E h X hr tk
  obtain ⟨A, s, a, x, rfl, h, hs, na, hn, q1, q2⟩ := h
  refine ⟨_, (pss_cons (ps_if (pt_cmpR (op_eqU (K := K) hr.units) (pe_callB (cr_len (K := K)) rfl (T.free 2) PySem.boot_len (pa_cons (pe_lc (own := [("other", 2)]) rfl sc_Trunk__add.nd (pi_listU (K := K) (pe_fldU (K := K) (pv 0))) (blkOk_by (N := ["self", "session", "other"]) (sc := defScope s_Trunk__add) (by decide +kernel)) (fun _ _ _ _ _ => (pg_name (i := 2) sc_Trunk__add.nd rfl (Or.inl rfl))) (fun _ _ _ _ _ => (pts_one (pt_cmpR (op_eqU (K := K) hr.units) (pe_fldU (K := K) (pv 2)) pe_str (nomark _)))) (fun _ _ _ _ _ => (pv 2))) pa_nil)) (pe_gInt (T.int 119)) (nomark _)) (pss_one (ps_raiseO (K := K) (T.exo 120 121) tk)) pss_nil) (pss_cons (ps_expr (pe_appendU (K := K) (pe_fldU (K := K) (pv 0)) (pv 1))) (pss_one (ps_ret (pe_op op_subU (pe_callB (cr_len (K := K)) rfl (T.free 2) PySem.boot_len (pa_cons (pe_fldU (K := K) (pv 0)) pa_nil)) pe_int))))), ?_⟩
  have ht := h.t
  have hsl : SqL K H A.sl (A.ss.map V.ref) := SqL.of h.sl
  have hsn := h.sn
  walk_at "st"
  first | refine ⟨A.sl, rfl, ⟨_, hsl⟩, ?_⟩ | skip
  refine lcQ_fil (itn_l (ys := A.ss) (u := V.ref)) (fun i => V.ref (A.ss.getD i 0)) (fun i => decide ((s.sess.getD i d0S).st = ("open" : Str))) (by omega) (fun H' e => SqL.kp e hsl) (fun i y H' H'' R S hi e z k1 k2 => ?_) (fun D H1 hD e1 hacc => ?_)
  · obtain ⟨rfl, b, hb, rfl⟩ := z
    obtain ⟨y, hy⟩ : ∃ y, s.sess[i]? = some y := ⟨_, List.getElem?_eq_getElem (by omega)⟩
    obtain ⟨dx, j, g1, g2⟩ := ((h.se i b y hb hy).kp e).ex
    have e1 : s.sess.getD i d0S = y := getD_of hy
    have e2 : A.ss.getD i 0 = b := getD_of hb
    rw [e1] at k1 k2
    rw [e2] at k1
    walk_at "st"
    refine ⟨rfl, ?_⟩
    walk_at "st"
    refine c_ite (fun g => ?_) (fun g => ?_)
    · walk_at "st"
      exact k1 (decide_eq_true g) _ Kp.refl
    · exact k2 (decide_eq_false g) _ Kp.refl
  walk_at "st"
  rw [List.length_map, hsn, opn_eq]
  refine c_ite (fun g => ?_) (fun g => ?_)
  · walk_at "st"
    exact q1 (by show (s.sess.filter fun x => decide (x.st = ("open" : Str))).length = 6; omega) H1 e1
  have h1 := h.kp e1
  have ht1 := h1.t
  have hsl1 := h1.sl
  obtain ⟨r1, r2, r3⟩ := h1.addS (hs.kp e1) na
  simp only [List.map_append, List.map_cons, List.map_nil] at r1 r2 r3
  have ht2 := r1.t
  have hsl2 := r1.sl
  walk_at "st"
  simp only [List.length_append, List.length_map, List.length_cons, List.length_nil, List.map_append, List.map_cons, List.map_nil, hsn]
  have en : (((s.sess.length + (0 + 1) : Nat) : Int) - 1) = (s.sess.length : Nat) := by omega
  first | rw [en] | skip
  exact q2 (by show ¬ (s.sess.filter fun x => decide (x.st = ("open" : Str))).length = 6; omega) _ r1 (fun b o hb ho => r2 b o hb (e1.at0 ho)) ((kp_fk e1).trans r3)
theorem M_Trunk__add (T : TX K mg) : MethAt P w K mg base (L2.CX P w) "Trunk" "_add" 2 ["self", "session"] (spTrAdd K) :=
  meth_ofX T 85 122 sc_Trunk__add bn_Trunk__add (by walk_at "len") (b_Trunk__add T)
def spTrBegin (K : PySem.W.Frag) : Sp := fun vs H Q E => ∃ (A : TrA) (s : TrS) (nm : Str), vs = [.ref A.t, .str nm] ∧ TrAt K H A s ∧ nm.length ≤ 1000 ∧ s.sess.length ≤ 1000 ∧ 1 ≤ s.trees.length ∧
  (isNameS nm = false → RaisesE K H E "name") ∧ (isNameS nm = true → s.opn = 6 → NoS K H E "TooManySessions") ∧ (isNameS nm = true → s.opn ≠ 6 → ∀ H' A', Stp K H A H' A' (s.add ⟨nm, s.trees.length - 1, [], 0, "open"⟩) → Q (.int (s.sess.length : Nat)) H')
theorem sc_Trunk_begin : FnScope ["self", "name"] ["self", "name"] (defScope s_Trunk_begin) := ⟨rfl, rfl, rfl, by decide +kernel, rfl, by decide +kernel, by decide +kernel⟩
theorem bn_Trunk_begin : BindM "begin" "Trunk.begin" s_Trunk_begin ["self", "name"] := fun _ _ _ _ _ _ us hl => match us, hl with | [_, _], _ => rfl
theorem b_Trunk_begin (T : TX K mg) : BodyMX P w K mg base "Trunk" "begin" "Trunk.begin" s_Trunk_begin ["self", "name"] 3 (spTrBegin K) := by
  intro cdv A outer s H vs Q E h X hr tk
  obtain ⟨A, s, nm, rfl, h, hnm, hn, h1t, q1, q2, q3⟩ := h
  have C_Session := C_Session T; have C_Trunk := C_Trunk T; have D_is_name := D_is_name (P := P) (w := w) (base := base) T; have E_OutOfRange := E_OutOfRange (P := P) (w := w) (base := base) T; have M_Session___init__ := M_Session___init__ (P := P) (w := w) (base := base) T; have M_Trunk__add := M_Trunk__add (P := P) (w := w) (base := base) T; have M_Trunk_version := M_Trunk_version (P := P) (w := w) (base := base) T; have Mk_Session := Mk_Session T
  refine ⟨_, (pss_cons (ps_if (pt_not (pt_tru (K := K) (pe_callA D_is_name hr pass0 (pa_cons (pv 1) pa_nil)))) (pss_one (ps_raiseE (K := K) E_OutOfRange hr tk (pa_cons pe_str pa_nil))) pss_nil) (pss_one (ps_ret (pe_methS1 M_Trunk__add C_Trunk hr (atW tk) (pv 0) (pa_cons (pe_newS M_Session___init__ Mk_Session C_Session hr at0 (pa_cons (pv 1) (pa_cons (pe_methS0 M_Trunk_version C_Trunk hr at0 (pv 0)) (pa_cons (pe_tup pa_nil) pa_nil)))) pa_nil))))), ?_⟩
  have ht := h.t
  walk_at "st"
  refine ⟨nm, rfl, by omega, fun H1 e1 => ?_⟩
  have h1 := h.kp e1
  have ht1 := h1.t
  walk_at "st"
  refine c_iteNB (fun gn => ?_) (fun gn => ?_)
  · walk_at "st"
    exact c_err fun d H2 N => q1 gn d H2 (e1.trans N.kp) N.at_
  walk_at "st"
  refine ⟨A, s, rfl, h1, ?_⟩
  walk_at "st"
  walk_at "nw"
  intro j H2 N2
  walk_at "st"
  have eb : (s.trees.length : Int) - 1 = ((s.trees.length - 1 : Nat) : Int) := by omega
  rw [eb]
  refine c_newSe fun x dx H3 e3 fx hx => ?_
  have k13 : Kp [] H1 H3 := N2.kp.trans e3
  have h3 := h1.kp k13
  have hs : SessAt K H3 x ⟨nm, s.trees.length - 1, [], 0, "open"⟩ := ⟨dx, j, hx, .tup (SqT.kp e3 (SqT.of N2.at_)) .nil⟩
  have fH : H x = none := free0 (e1.trans N2.kp) fx
  have nx : x ∉ own A := fun z => by
    obtain ⟨o, ho, _⟩ := h.fat x z
    rw [fH] at ho
    cases ho
  have k3 : Kp [] H H3 := e1.trans k13
  walk_at "st"
  refine ⟨A, s, x, _, rfl, h3, hs, nx, hn, fun g H4 e4 => q2 gn g H4 (k3.trans e4), fun g H4 r1 r2 r3 => ?_⟩
  walk_at "st"
  exact q3 gn g H4 _ ⟨r1, fun a o n ho => r2 a o n (k3.at0 ho), (kp_fk k3).trans r3, fun a ha => by
    have e : own { A with ss := A.ss ++ [x] } = own A ++ [x] := by simp [own]
    rw [e] at ha
    rcases List.mem_append.mp ha with ha | ha
    · exact .inl ha
    · rw [List.mem_singleton.mp ha]; exact .inr fH, rfl⟩
theorem M_Trunk_begin (T : TX K mg) : MethAt P w K mg base (L2.CX P w) "Trunk" "begin" 4 ["self", "name"] (spTrBegin K) :=
  meth_ofX T 86 123 sc_Trunk_begin bn_Trunk_begin (by walk_at "len") (b_Trunk_begin T)
def spTrActM (K : PySem.W.Frag) : Sp := fun vs H Q E => ∃ (A : TrA) (s : TrS) (i pos : Int) (a : Addr) (x : Action), vs = [.ref A.t, .int i, .int pos, .ref a] ∧ TrAt K H A s ∧ (∀ y ∈ s.sess, SessOk s y) ∧ ActAt K H a x ∧ x.sane ∧
  ((∀ (k : Nat) y, i = (k : Int) → s.sess[k]? = some y → y.st ≠ "open") → E (.ref (He.ga K "NoSession")) none H) ∧
  (∀ (k : Nat) y, i = (k : Int) → s.sess[k]? = some y → y.st = "open" → (∀ nm, x.bad = some nm → RaisesE K H E nm) ∧ (x.bad = none → (pos ≠ (y.jour.length : Nat) → NoS K H E "WrongPosition") ∧ (pos = (y.jour.length : Nat) →
    (y.jour.length = 40 → NoS K H E "JournalFull") ∧ (y.jour.length ≠ 40 → ∀ v H', Dt K H' v (actF (sightF s y) x).1 → Stp K H A H' A (s.sset k { y with jour := y.jour ++ [(x, (actF (sightF s y) x).1)] }) → Q v H'))))
theorem cut_takeT {α : Type} {ys : List α} {k : Nat} : cutL ys none (some ((k : Nat) : Int)) = ys.take k := by
  unfold cutL
  have e1 : HT.sIx ys.length 0 none = 0 := rfl
  have e2 : HT.sIx ys.length ys.length (some ((k : Nat) : Int)) = min k ys.length := by
    unfold HT.sIx
    first | (simp; omega) | (split <;> omega) | rfl
  rw [e1, e2, List.drop_zero, Nat.sub_zero, List.take_eq_take_iff]
  omega
def sinceF (ts : List (List File)) (js : List Entry) : Nat → Nat
  | 0 => 0
  | n + 1 => if (changeF 0 (ts.getD n []) js).isNone then n + 1 else sinceF ts js n
def standF (s : TrS) (y : Sess) : Option (Nat × PyData × Nat) := (changeF 0 (s.trees.getD (s.trees.length - 1) []) y.jour).map fun c => (c.1, c.2, sinceF s.trees (y.jour.take (c.1 + 1)) (s.trees.length - 1))
def standD : Option (Nat × PyData × Nat) → PyData
  | none => .none
  | some (a, d, n) => .tuple [.int (a : Nat), d, .int (n : Nat)]
def spTrStand (K : PySem.W.Frag) : Sp := fun vs H Q E => ∃ (A : TrA) (s : TrS) (i : Int), vs = [.ref A.t, .int i] ∧ TrAt K H A s ∧ (∀ y ∈ s.sess, SessOk s y) ∧ 1 ≤ s.trees.length ∧
  ((∀ (k : Nat) y, i = (k : Int) → s.sess[k]? = some y → y.st ≠ "open") → E (.ref (He.ga K "NoSession")) none H) ∧
  (∀ (k : Nat) y, i = (k : Int) → s.sess[k]? = some y → y.st = "open" → ∀ v H', Kp [] H H' → Dt K H' v (standD (standF s y)) → Q v H')
theorem sc_Trunk_standing : FnScope ["self", "session", "journal", "change", "at", "answer", "since"] ["self", "session"] (defScope s_Trunk_standing) := ⟨rfl, rfl, rfl, by decide +kernel, rfl, by decide +kernel, by decide +kernel⟩
theorem bn_Trunk_standing : BindM "standing" "Trunk.standing" s_Trunk_standing ["self", "session"] := fun _ _ _ _ _ _ us hl => match us, hl with | [_, _], _ => rfl
theorem b_Trunk_standing (T : TX K mg) : BodyMX P w K mg base "Trunk" "standing" "Trunk.standing" s_Trunk_standing ["self", "session", "journal", "change", "at", "answer", "since"] 12 (spTrStand K) := by
  intro cdv A outer s H vs Q E h X hr tk
  obtain ⟨A, s, i, rfl, h, ok, h1t, q1, q2⟩ := h
  have C_Trunk := C_Trunk T; have D_first_change := D_first_change (P := P) (w := w) (base := base) T; have D_holds := D_holds (P := P) (w := w) (base := base) T; have M_Trunk__opened := M_Trunk__opened (P := P) (w := w) (base := base) T; have M_Trunk_version := M_Trunk_version (P := P) (w := w) (base := base) T
  refine ⟨_, (pss_cons (ps_set (i := 2) sc_Trunk_standing.nd rfl (Or.inl rfl) (pe_fldU (K := K) (pe_methS1 M_Trunk__opened C_Trunk hr (atW tk) (pv 0) (pa_cons (pv 1) pa_nil)))) (pss_cons (ps_set (i := 3) sc_Trunk_standing.nd rfl (Or.inl rfl) (pe_callX D_first_change hr tk (pa_cons (pv 2) (pa_cons (pe_ix (ix_U (K := K)) (pe_fldU (K := K) (pv 0)) (pe_un un_neg pe_int) (fun _ _ => rfl)) pa_nil)))) (pss_cons (ps_if (pt_cmpR op_isU (pv 3) pe_non (nomark _)) (pss_one (ps_ret pe_non)) pss_nil) (pss_cons (ps_asg (pv 3) (pg_tupU (K := K) (n := 2) rfl (pgs_cons (pg_name (i := 4) sc_Trunk_standing.nd rfl (Or.inl rfl)) (pgs_cons (pg_name (i := 5) sc_Trunk_standing.nd rfl (Or.inl rfl)) pgs_nil)))) (pss_cons (ps_set (i := 6) sc_Trunk_standing.nd rfl (Or.inl rfl) (pe_methS0 M_Trunk_version C_Trunk hr at0 (pv 0))) (pss_cons (ps_while (passes_of rfl) (PW.pt (pw_and (pt_cmpR op_gtU (pv 6) pe_int (nomark _)) (pw_and1 (pt_not (pt_tru (K := K) (pe_callX D_holds hr tk (pa_cons (pe_slice (sl_U (K := K)) (pv 2) po_none (po_some (pe_op (op_addU (K := K)) (pv 4) pe_int))) (pa_cons (pe_ix (ix_U (K := K)) (pe_fldU (K := K) (pv 0)) (pe_op op_subU (pv 6) pe_int) (fun _ _ => rfl)) pa_nil)))))))) (pss_one (ps_set (i := 6) sc_Trunk_standing.nd rfl (Or.inl rfl) (pe_op op_subU (pv 6) pe_int)))) (pss_one (ps_ret (pe_tup (pa_cons (pv 4) (pa_cons (pv 5) (pa_cons (pv 6) pa_nil)))))))))))), ?_⟩
  have ht := h.t
  walk_at "st"
  refine ⟨A, s, i, rfl, h, fun k sa y e hy ho hsa hs => ?_, q1⟩
  have q := q2 k y e hy ho
  obtain ⟨o1, o2, o3⟩ := ok y (List.mem_of_getElem? hy)
  obtain ⟨dx, j, g1, g2⟩ := hs.ex
  have htr : s.trees[s.trees.length - 1]? = some (s.trees.getD (s.trees.length - 1) []) := by rw [List.getD_eq_getElem?_getD, List.getElem?_eq_getElem (by omega)]; rfl
  obtain ⟨ta, hta, hT⟩ := h.tree htr
  walk_at "st"
  refine c_ixL (v := .ref ta) (SqL.of h.tl) (atI_last (by rw [List.length_map, h.tn, List.getElem?_map, hta]; rfl)) ?_
  walk_at "st"
  refine ⟨j, ta, y.jour, _, rfl, hT, g2, by omega, o2, fun v H1 e1 hv => ?_⟩
  have h1 := h.kp e1
  have ht1 := h1.t
  unfold standF at q
  walk_at "st"
  cases hc : changeF 0 (s.trees.getD (s.trees.length - 1) []) y.jour with
  | none =>
    rw [hc] at hv q
    rw [dt_none hv]
    walk_at "dc"
    exact q _ H1 e1 .non
  | some c =>
    obtain ⟨at_, d⟩ := c
    rw [hc] at hv q
    obtain ⟨pc, xs, rfl, hp1, hp2⟩ := dt_tup hv
    obtain ⟨u1, us1, rfl, hu1, hp3⟩ := dta_cons hp2
    obtain ⟨w, us2, rfl, hw, hp4⟩ := dta_cons hp3
    have e3 := dta_nil hp4
    subst e3
    have eu := dt_int hu1
    subst eu
    have eb : (s.trees.length : Int) - 1 = ((s.trees.length - 1 : Nat) : Int) := by omega
    have fin : ∀ {n : Nat} {H2 H3 : Hp} {p : Addr}, Kp [] H1 H2 → sinceF s.trees (y.jour.take (at_ + 1)) (s.trees.length - 1) = n → New H2 p (.tup [.int (at_ : Nat), w, .int (n : Nat)]) H3 → Q (.ref p) H3 := fun e es N => q _ _ ((e1.trans e).trans N.kp) (by
      simp only [Option.map_some]
      rw [es]
      exact .tup (SqT.of N.at_) (.cons (.int _) (.cons (Dt.kp hw (e.trans N.kp)) (.cons (.int _) .nil))))
    obtain ⟨j', ys, ej, hys, hjs⟩ := dt_tup g2
    injection ej with ej
    subst ej
    have hyl : ys.length = y.jour.length := by rw [dta_len hjs, List.length_map]
    clear q q1 q2
    walk_at "dc"
    refine ⟨A, s, rfl, h1, ?_⟩
    rw [eb]
    walk_at "st"
    refine ⟨fun m σ H' => ∃ n : Nat, m = n ∧ n ≤ s.trees.length - 1 ∧ σ = [some (.ref A.t), some (.int i), some (.ref j), some (.ref pc), some (.int (at_ : Nat)), some w, some (.int (n : Nat))] ∧ Kp [] H1 H' ∧ sinceF s.trees (y.jour.take (at_ + 1)) (s.trees.length - 1) = sinceF s.trees (y.jour.take (at_ + 1)) n, ⟨_, s.trees.length - 1, rfl, Nat.le_refl _, rfl, Kp.refl, rfl⟩, ?_⟩
    rintro n σ H2 ⟨n', em, hn, rfl, e2, es⟩
    subst em
    have h2 := h1.kp e2
    have ht2 := h2.t
    cases n with
    | zero =>
      walk_at "dc"
      walk_at "nw"
      intro p3 H3 N3
      exact fin e2 es N3
    | succ n =>
      walk_at "st"
      refine c_ite (fun g => ?_) (fun g => absurd (by omega) g)
      walk_at "st"
      refine c_slT (SqT.kp (e1.trans e2) hys) fun p3 H3 e3 hp3 => ?_
      have ek : ((at_ : Nat) : Int) + 1 = ((at_ + 1 : Nat) : Int) := by omega
      rw [ek, cut_takeT] at hp3
      have k3 := (e1.trans e2).trans e3
      have hj3 : Dt K H3 (.ref p3) (jourD (y.jour.take (at_ + 1))) := .tup hp3 (by rw [List.map_take]; exact dta_take _ (DtAll.kp hjs k3))
      have htn : s.trees[n]? = some (s.trees.getD n []) := by rw [List.getD_eq_getElem?_getD, List.getElem?_eq_getElem (by omega)]; rfl
      obtain ⟨tb, htb, hTb⟩ := (h.kp k3).tree htn
      have ht3 := (h.kp k3).t
      walk_at "st"
      refine c_ixL (v := .ref tb) (SqL.of (h.kp k3).tl) (by
        have : ((n + 1 : Nat) : Int) - 1 = (n : Nat) := by omega
        rw [this]
        exact atI_nat (j := n) (by rw [List.getElem?_map, htb]; rfl)) ?_
      walk_at "st"
      refine ⟨p3, tb, _, _, rfl, hTb, hj3, by rw [List.length_take]; omega, fun e he => o2 e (List.mem_of_mem_take he), fun H4 e4 => ?_⟩
      have e24 : Kp [] H1 H4 := (e2.trans e3).trans e4
      cases hh : (changeF 0 (s.trees.getD n []) (y.jour.take (at_ + 1))).isNone with
      | true =>
        walk_at "dc"
        walk_at "nw"
        intro p5 H5 N5
        exact fin e24 (by rw [es]; unfold sinceF; rw [if_pos hh]) N5
      | false =>
        walk_at "dc"
        refine ⟨fun σ' H' => ∃ m', m' < n + 1 ∧ _, fun _ _ h => h, ?_⟩
        walk_at "st"
        have en : ((n + 1 : Nat) : Int) - 1 = (n : Nat) := by omega
        rw [en]
        refine ⟨n, by omega, n, rfl, by omega, rfl, e24, ?_⟩
        rw [es]
        conv => lhs; unfold sinceF
        rw [if_neg (by rw [hh]; exact Bool.false_ne_true)]
theorem M_Trunk_standing (T : TX K mg) : MethAt P w K mg base (L2.CX P w) "Trunk" "standing" 13 ["self", "session"] (spTrStand K) :=
  meth_ofX T 89 127 sc_Trunk_standing bn_Trunk_standing (by walk_at "len") (b_Trunk_standing T)
end
end K36



namespace K36
open PySem L2 Sa
local macro_rules | `(tactic| walk_at "s1") => `(tactic| first | (with_reducible apply c_dgetK))
local macro_rules | `(tactic| walk_at "s1") => `(tactic| (with_reducible apply c_raiseO))
local macro_rules | `(tactic| walk_at "s1") => `(tactic| first | (with_reducible apply c_un) | (with_reducible apply c_negI))
local macro_rules | `(tactic| walk_at "s1") => `(tactic| first | ((with_reducible apply se_g1 (by assumption)); (· walk_at "lk")) | ((with_reducible apply se_p1 (by assumption)); (· walk_at "lk")) | ((with_reducible apply se_g2 (by assumption)); (· walk_at "lk")) | ((with_reducible apply se_p2 (by assumption)); (· walk_at "lk")) | ((with_reducible apply se_g3 (by assumption)); (· walk_at "lk")) | ((with_reducible apply se_p3 (by assumption)); (· walk_at "lk")) | ((with_reducible apply se_g4 (by assumption)); (· walk_at "lk")) | ((with_reducible apply se_p4 (by assumption)); (· walk_at "lk")) | ((with_reducible apply se_g5 (by assumption)); (· walk_at "lk")) | ((with_reducible apply se_p5 (by assumption)); (· walk_at "lk")) | ((with_reducible apply se_r); (· walk_at "lk"); (· decide +kernel)))
local macro_rules | `(tactic| walk_at "s1") => `(tactic| first | ((with_reducible apply li_g1 (by assumption)); (· walk_at "lk")) | ((with_reducible apply li_p1 (by assumption)); (· walk_at "lk")) | ((with_reducible apply li_g2 (by assumption)); (· walk_at "lk")) | ((with_reducible apply li_p2 (by assumption)); (· walk_at "lk")) | ((with_reducible apply li_g3 (by assumption)); (· walk_at "lk")) | ((with_reducible apply li_p3 (by assumption)); (· walk_at "lk")) | ((with_reducible apply li_r); (· walk_at "lk"); (· decide +kernel)))
local macro_rules | `(tactic| walk_at "s1") => `(tactic| first | ((with_reducible apply tr_g1 (by assumption)); (· walk_at "lk")) | ((with_reducible apply tr_p1 (by assumption)); (· walk_at "lk")) | ((with_reducible apply tr_g2 (by assumption)); (· walk_at "lk")) | ((with_reducible apply tr_p2 (by assumption)); (· walk_at "lk")) | ((with_reducible apply tr_g3 (by assumption)); (· walk_at "lk")) | ((with_reducible apply tr_p3 (by assumption)); (· walk_at "lk")) | ((with_reducible apply tr_g4 (by assumption)); (· walk_at "lk")) | ((with_reducible apply tr_p4 (by assumption)); (· walk_at "lk")) | ((with_reducible apply tr_g5 (by assumption)); (· walk_at "lk")) | ((with_reducible apply tr_p5 (by assumption)); (· walk_at "lk")) | ((with_reducible apply tr_g6 (by assumption)); (· walk_at "lk")) | ((with_reducible apply tr_p6 (by assumption)); (· walk_at "lk")) | ((with_reducible apply tr_g7 (by assumption)); (· walk_at "lk")) | ((with_reducible apply tr_p7 (by assumption)); (· walk_at "lk")) | ((with_reducible apply tr_g8 (by assumption)); (· walk_at "lk")) | ((with_reducible apply tr_p8 (by assumption)); (· walk_at "lk")) | ((with_reducible apply tr_g9 (by assumption)); (· walk_at "lk")) | ((with_reducible apply tr_p9 (by assumption)); (· walk_at "lk")) | ((with_reducible apply tr_r); (· walk_at "lk"); (· decide +kernel)))
set_option pp.maxSteps 1500
/-! ## the law's world: the same trunk as plain lists -/
structure WoA where
  w : Addr
  l0 : Addr
  l1 : Addr
  l2 : Addr
  l3 : Addr
  l4 : Addr
  l5 : Addr
  d6 : Addr
  d7 : Addr
  l8 : Addr
  fs : List Addr
  es : List V
  rs : List Addr
def own2 (B : WoA) : List Addr := [B.w, B.l0, B.l1, B.l2, B.l3, B.l4, B.l5, B.l8] ++ B.rs
section
variable {K : PySem.W.Frag}
structure RowAt (K : PySem.W.Frag) (H : Hp) (a : Addr) (x : Sess) : Prop where
  ex : ∃ j, H a = some (.lst [.str x.nm, .int (x.base : Nat), .ref j, .int (x.refs : Nat), .str x.st]) ∧ Dt K H (.ref j) (jourD x.jour)
structure TabAt (K : PySem.W.Frag) (H : Hp) (f : Addr) (gs : List File) : Prop where
  ex : ∃ fs, FilesAt K H f fs ∧ GoodP fs ∧ sortF fs = gs
theorem TabAt.fk {H H' : Hp} {f : Addr} {gs : List File} (h : TabAt K H f gs) (e : Fk H H') : TabAt K H' f gs := by
  obtain ⟨fs, h1, h2, h3⟩ := h.ex
  exact ⟨fs, h1.fk e, h2, h3⟩
theorem RowAt.fr {H H' : Hp} {a : Addr} {x : Sess} (h : RowAt K H a x) (e : H' a = H a) (k : Fk H H') : RowAt K H' a x := by
  obtain ⟨j, h1, h2⟩ := h.ex
  exact ⟨j, e.trans h1, Dt.kt k.kt h2⟩
structure WoAt (K : PySem.W.Frag) (H : Hp) (B : WoA) (s : TrS) : Prop where
  w : H B.w = some (.lst [.ref B.l0, .ref B.l1, .ref B.l2, .ref B.l3, .ref B.l4, .ref B.l5, .ref B.d6, .ref B.d7, .ref B.l8])
  l0 : H B.l0 = some (.lst (B.fs.map V.ref))
  fn : B.fs.length = s.trees.length
  tb : ∀ (i : Nat) a gs, B.fs[i]? = some a → s.trees[i]? = some gs → TabAt K H a gs
  l1 : H B.l1 = some (.lst B.es)
  es : DtAll K H B.es (s.ents.map entsD)
  l2 : H B.l2 = some (.lst (B.rs.map V.ref))
  rn : B.rs.length = s.sess.length
  rw_ : ∀ (i : Nat) a x, B.rs[i]? = some a → s.sess[i]? = some x → RowAt K H a x
  l3 : H B.l3 = some (.lst ((s.line.map fun n => ((n : Nat) : Int)).map V.int))
  l4 : H B.l4 = some (.lst [.bl s.prot, .int (s.events : Nat)])
  l5 : H B.l5 = some (.lst [.int (s.pat : Nat), .int (s.all : Nat)])
  d6 : H B.d6 = some (.dK [])
  d7 : H B.d7 = some (.dK [])
  l8 : H B.l8 = some (.lst [.int (s.runs : Nat)])
  nd : (own2 B).Nodup
variable {H H' : Hp} {B : WoA} {s : TrS}
theorem WoAt.fat (h : WoAt K H B s) : ∀ a ∈ own2 B, ∃ xs, H a = some (.lst xs) := fun a ha => by
  simp only [own2, List.cons_append, List.nil_append, List.mem_cons] at ha
  rcases ha with rfl | rfl | rfl | rfl | rfl | rfl | rfl | rfl | ha
  · exact ⟨_, h.w⟩
  · exact ⟨_, h.l0⟩
  · exact ⟨_, h.l1⟩
  · exact ⟨_, h.l2⟩
  · exact ⟨_, h.l3⟩
  · exact ⟨_, h.l4⟩
  · exact ⟨_, h.l5⟩
  · exact ⟨_, h.l8⟩
  · obtain ⟨i, hi, e⟩ := List.mem_iff_getElem.mp ha
    have hi2 : i < s.sess.length := by have := h.rn; omega
    obtain ⟨j, h1, _⟩ := (h.rw_ i a s.sess[i] (by rw [List.getElem?_eq_getElem hi, e]) (List.getElem?_eq_getElem hi2)).ex
    exact ⟨_, h1⟩
theorem WoAt.fr (h : WoAt K H B s) (e : ∀ a ∈ own2 B, H' a = H a) (k : Fk H H') : WoAt K H' B s := by
  have m : ∀ a, a ∈ [B.w, B.l0, B.l1, B.l2, B.l3, B.l4, B.l5, B.l8] → H' a = H a := fun a ha => e a (List.mem_append_left _ ha)
  exact ⟨(m B.w (by simp)).trans h.w, (m B.l0 (by simp)).trans h.l0, h.fn, fun i a gs h1 h2 => (h.tb i a gs h1 h2).fk k, (m B.l1 (by simp)).trans h.l1, DtAll.kt k.kt h.es, (m B.l2 (by simp)).trans h.l2, h.rn,
    fun i a x h1 h2 => (h.rw_ i a x h1 h2).fr (e a (List.mem_append_right _ (List.mem_of_getElem? h1))) k, (m B.l3 (by simp)).trans h.l3, (m B.l4 (by simp)).trans h.l4, (m B.l5 (by simp)).trans h.l5, k _ _ h.d6 (fun z => z), k _ _ h.d7 (fun z => z), (m B.l8 (by simp)).trans h.l8, h.nd⟩
theorem WoAt.same (h : WoAt K H B s) {ms : List Addr} (e : Kp ms H H') (n : ∀ a ∈ own2 B, a ∉ ms) : ∀ a ∈ own2 B, H' a = H a := fun a ha => by
  obtain ⟨o, h1⟩ := h.fat a ha
  rw [h1, e a _ (n a ha) h1]
theorem WoAt.kp (h : WoAt K H B s) (e : Kp [] H H') : WoAt K H' B s := h.fr (h.same e (by simp)) (kp_fk e)
theorem WoAt.kpm (h : WoAt K H B s) {ms : List Addr} (e : Kp ms H H') (n : ∀ a ∈ own2 B, a ∉ ms) (k : Fk H H') : WoAt K H' B s := h.fr (h.same e n) k
theorem WoAt.box {b d : Addr} (h : WoAt K H B s) (X : Bx H b d) (e : Kp [b] H H') (n : b ∉ own2 B) : WoAt K H' B s := h.kpm e (fun a ha z => n (by rw [← List.mem_singleton.mp z]; exact ha)) (bx_fk X e)
/-- a step of the world -/
structure Stw (K : PySem.W.Frag) (H : Hp) (B : WoA) (H' : Hp) (B' : WoA) (s' : TrS) : Prop where
  at_ : WoAt K H' B' s'
  kp : Kp (own2 B) H H'
  fk : Fk H H'
  ow : ∀ a ∈ own2 B', a ∈ own2 B ∨ H a = none
  ww : B'.w = B.w
theorem Stw.refl (h : WoAt K H B s) (e : Kp [] H H') : Stw K H B H' B s := ⟨h.kp e, e.mono, kp_fk e, fun _ h => .inl h, rfl⟩
end
end K36



namespace K36
open PySem L2 Sa
local macro_rules | `(tactic| walk_at "s1") => `(tactic| first | (with_reducible apply c_dgetK))
local macro_rules | `(tactic| walk_at "s1") => `(tactic| (with_reducible apply c_raiseO))
local macro_rules | `(tactic| walk_at "s1") => `(tactic| first | (with_reducible apply c_un) | (with_reducible apply c_negI))
local macro_rules | `(tactic| walk_at "s1") => `(tactic| first | ((with_reducible apply se_g1 (by assumption)); (· walk_at "lk")) | ((with_reducible apply se_p1 (by assumption)); (· walk_at "lk")) | ((with_reducible apply se_g2 (by assumption)); (· walk_at "lk")) | ((with_reducible apply se_p2 (by assumption)); (· walk_at "lk")) | ((with_reducible apply se_g3 (by assumption)); (· walk_at "lk")) | ((with_reducible apply se_p3 (by assumption)); (· walk_at "lk")) | ((with_reducible apply se_g4 (by assumption)); (· walk_at "lk")) | ((with_reducible apply se_p4 (by assumption)); (· walk_at "lk")) | ((with_reducible apply se_g5 (by assumption)); (· walk_at "lk")) | ((with_reducible apply se_p5 (by assumption)); (· walk_at "lk")) | ((with_reducible apply se_r); (· walk_at "lk"); (· decide +kernel)))
local macro_rules | `(tactic| walk_at "s1") => `(tactic| first | ((with_reducible apply li_g1 (by assumption)); (· walk_at "lk")) | ((with_reducible apply li_p1 (by assumption)); (· walk_at "lk")) | ((with_reducible apply li_g2 (by assumption)); (· walk_at "lk")) | ((with_reducible apply li_p2 (by assumption)); (· walk_at "lk")) | ((with_reducible apply li_g3 (by assumption)); (· walk_at "lk")) | ((with_reducible apply li_p3 (by assumption)); (· walk_at "lk")) | ((with_reducible apply li_r); (· walk_at "lk"); (· decide +kernel)))
local macro_rules | `(tactic| walk_at "s1") => `(tactic| first | ((with_reducible apply tr_g1 (by assumption)); (· walk_at "lk")) | ((with_reducible apply tr_p1 (by assumption)); (· walk_at "lk")) | ((with_reducible apply tr_g2 (by assumption)); (· walk_at "lk")) | ((with_reducible apply tr_p2 (by assumption)); (· walk_at "lk")) | ((with_reducible apply tr_g3 (by assumption)); (· walk_at "lk")) | ((with_reducible apply tr_p3 (by assumption)); (· walk_at "lk")) | ((with_reducible apply tr_g4 (by assumption)); (· walk_at "lk")) | ((with_reducible apply tr_p4 (by assumption)); (· walk_at "lk")) | ((with_reducible apply tr_g5 (by assumption)); (· walk_at "lk")) | ((with_reducible apply tr_p5 (by assumption)); (· walk_at "lk")) | ((with_reducible apply tr_g6 (by assumption)); (· walk_at "lk")) | ((with_reducible apply tr_p6 (by assumption)); (· walk_at "lk")) | ((with_reducible apply tr_g7 (by assumption)); (· walk_at "lk")) | ((with_reducible apply tr_p7 (by assumption)); (· walk_at "lk")) | ((with_reducible apply tr_g8 (by assumption)); (· walk_at "lk")) | ((with_reducible apply tr_p8 (by assumption)); (· walk_at "lk")) | ((with_reducible apply tr_g9 (by assumption)); (· walk_at "lk")) | ((with_reducible apply tr_p9 (by assumption)); (· walk_at "lk")) | ((with_reducible apply tr_r); (· walk_at "lk"); (· decide +kernel)))
set_option pp.maxSteps 1500
/-- places that all hold something, and each is another -/
structure Al (H : Hp) (L : List Addr) : Prop where
  al : ∀ a ∈ L, ∃ o, H a = some o
  nd : L.Nodup
theorem Al.nil {H : Hp} : Al H [] := ⟨by simp, .nil⟩
theorem Al.new {H H' : Hp} {L : List Addr} {p : Addr} {o : HO} (h : Al H L) (N : New H p o H') : Al H' (p :: L) := by
  refine ⟨fun a ha => ?_, List.nodup_cons.mpr ⟨fun z => ?_, h.nd⟩⟩
  · rcases List.mem_cons.mp ha with rfl | ha
    · exact ⟨_, N.at_⟩
    · obtain ⟨o', ho⟩ := h.al a ha
      exact ⟨o', N.keep ho⟩
  · obtain ⟨o', ho⟩ := h.al p z
    rw [N.fr] at ho
    cases ho
section
variable {P : Program} {w : World} {K : PySem.W.Frag} {mg : Str → Option Value} {base : Heap}
def spWoNew (K : PySem.W.Frag) : Sp := fun vs H Q _ => ∃ (f : Addr) (p a : Nat) (gs : List File), vs = [.ref f, .int (p : Nat), .int (a : Nat)] ∧ TabAt K H f gs ∧ ∀ B H', Kp [] H H' → WoAt K H' B (newTr p a gs) → (∀ a ∈ own2 B, H a = none) → Q (.ref B.w) H'
theorem sc__law_new : FnScope ["_law_table_here", "_law_patience", "_law_allowance"] ["_law_table_here", "_law_patience", "_law_allowance"] (defScope s__law_new) := ⟨rfl, rfl, rfl, by decide +kernel, rfl, by decide +kernel, by decide +kernel⟩
theorem bn__law_new : BindN "_law_new" s__law_new ["_law_table_here", "_law_patience", "_law_allowance"] := fun _ _ _ _ _ _ us hl => match us, hl with | [_, _, _], _ => rfl
theorem b__law_new (T : TX K mg) : Body P w K mg base "_law_new" s__law_new ["_law_table_here", "_law_patience", "_law_allowance"] 1 (spWoNew K) := by
  intro cdv A outer s H vs Q E h X hr
  obtain ⟨f, p, a, gs, rfl, F, q⟩ := h
  refine ⟨_, (pss_one (ps_ret (pe_lst (pa_cons (pe_lst (pa_cons (pv 0) pa_nil)) (pa_cons (pe_lst pa_nil) (pa_cons (pe_lst pa_nil) (pa_cons (pe_lst pa_nil) (pa_cons (pe_lst (pa_cons pe_bl (pa_cons pe_int pa_nil))) (pa_cons (pe_lst (pa_cons (pv 1) (pa_cons (pv 2) pa_nil))) (pa_cons pe_dnewK (pa_cons pe_dnewK (pa_cons (pe_lst (pa_cons pe_int pa_nil)) pa_nil)))))))))))), ?_⟩
  walk_at "st"
  walk_at "nw"
  intro l0 H1 N1
  walk_at "st"
  walk_at "nw"
  intro l1 H2 N2
  walk_at "st"
  walk_at "nw"
  intro l2 H3 N3
  walk_at "st"
  walk_at "nw"
  intro l3 H4 N4
  walk_at "st"
  walk_at "nw"
  intro l4 H5 N5
  walk_at "st"
  walk_at "nw"
  intro l5 H6 N6
  walk_at "st"
  refine c_dnew fun d6 H7 N7 => ?_
  walk_at "st"
  refine c_dnew fun d7 H8 N8 => ?_
  walk_at "st"
  walk_at "nw"
  intro l8 H9 N9
  walk_at "st"
  walk_at "nw"
  intro ww H10 N10
  have L := (((((((((Al.nil (H := H)).new N1).new N2).new N3).new N4).new N5).new N6).new N7).new N8).new N9 |>.new N10
  have k1 := N1.kp (ms := [])
  have k2 := k1.trans N2.kp
  have k3 := k2.trans N3.kp
  have k4 := k3.trans N4.kp
  have k5 := k4.trans N5.kp
  have k6 := k5.trans N6.kp
  have k8 := (k6.trans N7.kp).trans N8.kp
  have k9 := k8.trans N9.kp
  have k10 := k9.trans N10.kp
  refine q ⟨ww, l0, l1, l2, l3, l4, l5, d6, d7, l8, [f], [], []⟩ H10 k10 ⟨N10.at_, N10.keep (N9.keep (N8.keep (N7.keep (N6.keep (N5.keep (N4.keep (N3.keep (N2.keep N1.at_)))))))), rfl, fun i b hs h1 h2 => ?_,
    N10.keep (N9.keep (N8.keep (N7.keep (N6.keep (N5.keep (N4.keep (N3.keep N2.at_))))))), .nil, N10.keep (N9.keep (N8.keep (N7.keep (N6.keep (N5.keep (N4.keep N3.at_)))))), rfl, fun i b y h1 _ => nofun1 h1,
    N10.keep (N9.keep (N8.keep (N7.keep (N6.keep (N5.keep N4.at_))))), N10.keep (N9.keep (N8.keep (N7.keep (N6.keep N5.at_)))), N10.keep (N9.keep (N8.keep (N7.keep N6.at_))), N10.keep (N9.keep (N8.keep N7.at_)), N10.keep (N9.keep N8.at_), N10.keep N9.at_, ?_⟩ fun b hb => ?_
  · cases i with
    | zero =>
      obtain rfl := Option.some.inj h1
      obtain rfl := Option.some.inj h2
      exact F.fk (kp_fk k10)
    | succ i => cases h1
  · have nd := L.nd
    simp only [List.nodup_cons, List.mem_cons, List.not_mem_nil, or_false, not_or, not_false_eq_true, List.nodup_nil, and_true] at nd
    simp only [own2, List.append_nil, List.nodup_cons, List.mem_cons, List.not_mem_nil, or_false, not_or, not_false_eq_true, List.nodup_nil, and_true]
    grind
  · simp only [own2, List.append_nil, List.mem_cons, List.not_mem_nil, or_false] at hb
    rcases hb with rfl | rfl | rfl | rfl | rfl | rfl | rfl | rfl
    · exact free0 k9 N10.fr
    · exact N1.fr
    · exact free0 k1 N2.fr
    · exact free0 k2 N3.fr
    · exact free0 k3 N4.fr
    · exact free0 k4 N5.fr
    · exact free0 k5 N6.fr
    · exact free0 k8 N9.fr
theorem D__law_new (T : TX K mg) : DefAt P w K mg base CX0 "_law_new" 2 ["_law_table_here", "_law_patience", "_law_allowance"] (spWoNew K) :=
  def_of T 48 73 sc__law_new bn__law_new (by walk_at "len") (b__law_new T)
end
end K36



namespace K36
open PySem L2 Sa
local macro_rules | `(tactic| walk_at "s1") => `(tactic| first | (with_reducible apply c_dgetK))
local macro_rules | `(tactic| walk_at "s1") => `(tactic| (with_reducible apply c_raiseO))
local macro_rules | `(tactic| walk_at "s1") => `(tactic| first | (with_reducible apply c_un) | (with_reducible apply c_negI))
local macro_rules | `(tactic| walk_at "s1") => `(tactic| first | ((with_reducible apply se_g1 (by assumption)); (· walk_at "lk")) | ((with_reducible apply se_p1 (by assumption)); (· walk_at "lk")) | ((with_reducible apply se_g2 (by assumption)); (· walk_at "lk")) | ((with_reducible apply se_p2 (by assumption)); (· walk_at "lk")) | ((with_reducible apply se_g3 (by assumption)); (· walk_at "lk")) | ((with_reducible apply se_p3 (by assumption)); (· walk_at "lk")) | ((with_reducible apply se_g4 (by assumption)); (· walk_at "lk")) | ((with_reducible apply se_p4 (by assumption)); (· walk_at "lk")) | ((with_reducible apply se_g5 (by assumption)); (· walk_at "lk")) | ((with_reducible apply se_p5 (by assumption)); (· walk_at "lk")) | ((with_reducible apply se_r); (· walk_at "lk"); (· decide +kernel)))
local macro_rules | `(tactic| walk_at "s1") => `(tactic| first | ((with_reducible apply li_g1 (by assumption)); (· walk_at "lk")) | ((with_reducible apply li_p1 (by assumption)); (· walk_at "lk")) | ((with_reducible apply li_g2 (by assumption)); (· walk_at "lk")) | ((with_reducible apply li_p2 (by assumption)); (· walk_at "lk")) | ((with_reducible apply li_g3 (by assumption)); (· walk_at "lk")) | ((with_reducible apply li_p3 (by assumption)); (· walk_at "lk")) | ((with_reducible apply li_r); (· walk_at "lk"); (· decide +kernel)))
local macro_rules | `(tactic| walk_at "s1") => `(tactic| first | ((with_reducible apply tr_g1 (by assumption)); (· walk_at "lk")) | ((with_reducible apply tr_p1 (by assumption)); (· walk_at "lk")) | ((with_reducible apply tr_g2 (by assumption)); (· walk_at "lk")) | ((with_reducible apply tr_p2 (by assumption)); (· walk_at "lk")) | ((with_reducible apply tr_g3 (by assumption)); (· walk_at "lk")) | ((with_reducible apply tr_p3 (by assumption)); (· walk_at "lk")) | ((with_reducible apply tr_g4 (by assumption)); (· walk_at "lk")) | ((with_reducible apply tr_p4 (by assumption)); (· walk_at "lk")) | ((with_reducible apply tr_g5 (by assumption)); (· walk_at "lk")) | ((with_reducible apply tr_p5 (by assumption)); (· walk_at "lk")) | ((with_reducible apply tr_g6 (by assumption)); (· walk_at "lk")) | ((with_reducible apply tr_p6 (by assumption)); (· walk_at "lk")) | ((with_reducible apply tr_g7 (by assumption)); (· walk_at "lk")) | ((with_reducible apply tr_p7 (by assumption)); (· walk_at "lk")) | ((with_reducible apply tr_g8 (by assumption)); (· walk_at "lk")) | ((with_reducible apply tr_p8 (by assumption)); (· walk_at "lk")) | ((with_reducible apply tr_g9 (by assumption)); (· walk_at "lk")) | ((with_reducible apply tr_p9 (by assumption)); (· walk_at "lk")) | ((with_reducible apply tr_r); (· walk_at "lk"); (· decide +kernel)))
set_option pp.maxSteps 1500
section
variable {P : Program} {w : World} {K : PySem.W.Frag} {mg : Str → Option Value} {base : Heap}
theorem WoAt.at {H : Hp} {B : WoA} {s : TrS} (h : WoAt K H B s) {k : Nat} {x : Sess} (hk : s.sess[k]? = some x) : ∃ a, B.rs[k]? = some a ∧ RowAt K H a x := by
  have hl := (List.getElem?_eq_some_iff.mp hk).1
  have hl2 : k < B.rs.length := by rw [h.rn]; exact hl
  exact ⟨B.rs[k], List.getElem?_eq_getElem hl2, h.rw_ k _ x (List.getElem?_eq_getElem hl2) hk⟩
theorem WoAt.tab {H : Hp} {B : WoA} {s : TrS} (h : WoAt K H B s) {k : Nat} {gs : List File} (hk : s.trees[k]? = some gs) : ∃ a, B.fs[k]? = some a ∧ TabAt K H a gs := by
  have hl := (List.getElem?_eq_some_iff.mp hk).1
  have hl2 : k < B.fs.length := by rw [h.fn]; exact hl
  exact ⟨B.fs[k], List.getElem?_eq_getElem hl2, h.tb k _ gs (List.getElem?_eq_getElem hl2) hk⟩
def spWoSight (K : PySem.W.Frag) : Sp := fun vs H Q _ => ∃ (B : WoA) (s : TrS) (k : Nat) (y : Sess), vs = [.ref B.w, .int (k : Nat)] ∧ WoAt K H B s ∧ SessOk s y ∧ s.sess[k]? = some y ∧ ∀ f H', Kp [] H H' → TabAt K H' f (sightF s y) → Q (.ref f) H'
end
end K36



namespace K36
open PySem L2 Sa
local macro_rules | `(tactic| walk_at "s1") => `(tactic| first | (with_reducible apply c_dgetK))
local macro_rules | `(tactic| walk_at "s1") => `(tactic| (with_reducible apply c_raiseO))
local macro_rules | `(tactic| walk_at "s1") => `(tactic| first | (with_reducible apply c_un) | (with_reducible apply c_negI))
local macro_rules | `(tactic| walk_at "s1") => `(tactic| first | ((with_reducible apply se_g1 (by assumption)); (· walk_at "lk")) | ((with_reducible apply se_p1 (by assumption)); (· walk_at "lk")) | ((with_reducible apply se_g2 (by assumption)); (· walk_at "lk")) | ((with_reducible apply se_p2 (by assumption)); (· walk_at "lk")) | ((with_reducible apply se_g3 (by assumption)); (· walk_at "lk")) | ((with_reducible apply se_p3 (by assumption)); (· walk_at "lk")) | ((with_reducible apply se_g4 (by assumption)); (· walk_at "lk")) | ((with_reducible apply se_p4 (by assumption)); (· walk_at "lk")) | ((with_reducible apply se_g5 (by assumption)); (· walk_at "lk")) | ((with_reducible apply se_p5 (by assumption)); (· walk_at "lk")) | ((with_reducible apply se_r); (· walk_at "lk"); (· decide +kernel)))
local macro_rules | `(tactic| walk_at "s1") => `(tactic| first | ((with_reducible apply li_g1 (by assumption)); (· walk_at "lk")) | ((with_reducible apply li_p1 (by assumption)); (· walk_at "lk")) | ((with_reducible apply li_g2 (by assumption)); (· walk_at "lk")) | ((with_reducible apply li_p2 (by assumption)); (· walk_at "lk")) | ((with_reducible apply li_g3 (by assumption)); (· walk_at "lk")) | ((with_reducible apply li_p3 (by assumption)); (· walk_at "lk")) | ((with_reducible apply li_r); (· walk_at "lk"); (· decide +kernel)))
local macro_rules | `(tactic| walk_at "s1") => `(tactic| first | ((with_reducible apply tr_g1 (by assumption)); (· walk_at "lk")) | ((with_reducible apply tr_p1 (by assumption)); (· walk_at "lk")) | ((with_reducible apply tr_g2 (by assumption)); (· walk_at "lk")) | ((with_reducible apply tr_p2 (by assumption)); (· walk_at "lk")) | ((with_reducible apply tr_g3 (by assumption)); (· walk_at "lk")) | ((with_reducible apply tr_p3 (by assumption)); (· walk_at "lk")) | ((with_reducible apply tr_g4 (by assumption)); (· walk_at "lk")) | ((with_reducible apply tr_p4 (by assumption)); (· walk_at "lk")) | ((with_reducible apply tr_g5 (by assumption)); (· walk_at "lk")) | ((with_reducible apply tr_p5 (by assumption)); (· walk_at "lk")) | ((with_reducible apply tr_g6 (by assumption)); (· walk_at "lk")) | ((with_reducible apply tr_p6 (by assumption)); (· walk_at "lk")) | ((with_reducible apply tr_g7 (by assumption)); (· walk_at "lk")) | ((with_reducible apply tr_p7 (by assumption)); (· walk_at "lk")) | ((with_reducible apply tr_g8 (by assumption)); (· walk_at "lk")) | ((with_reducible apply tr_p8 (by assumption)); (· walk_at "lk")) | ((with_reducible apply tr_g9 (by assumption)); (· walk_at "lk")) | ((with_reducible apply tr_p9 (by assumption)); (· walk_at "lk")) | ((with_reducible apply tr_r); (· walk_at "lk"); (· decide +kernel)))
set_option pp.maxSteps 1500
theorem tr_rows_dt {K : PySem.W.Frag} {H : Hp} {rs : List RowA} {fs : List File} (e : rs.map (fun r => r.2.2) = fs) (hr : ∀ r ∈ rs, RowOk K H r) : DtAll K H (rs.map fun r => V.ref r.1) (fs.map fileD) := by
  subst e
  induction rs with
  | nil => exact .nil
  | cons r rs ih =>
    have ok := hr r (List.mem_cons_self ..)
    exact .cons (.tup ok.row (.cons (.str _) (.cons (dt_strs ok.lines) .nil))) (ih fun r hr' => hr r (List.mem_cons_of_mem _ hr'))
theorem jour_nice {s : TrS} {y : Sess} (h : SessOk s y) : Nice (jourD y.jour) := (fit_jour2 (m := 40) (fun e he => ⟨h.je e he, h.jf e he⟩) h.jl).nice (by decide) (by decide)
theorem rows_nice {fs : List File} (h : GoodP fs) : Nice (rowsOfD fs) := (fit_files h).nice (by decide) (by decide)
theorem bl_nice (b : Bool) : Nice (.bool b) := by cases b <;> exact ⟨by decide +kernel, by decide +kernel, by decide +kernel⟩
section
variable {P : Program} {w : World} {K : PySem.W.Frag} {mg : Str → Option Value} {base : Heap}
theorem getS {H : Hp} {Q : VK} {E : XK} {A : TrA} {s : TrS} {f : Sess → V → Prop} {k : Nat} {y : Sess} (h : TrAt K H A s) (hy : s.sess[k]? = some y) (q : ∀ v, f y v → Q v H) : spTrGet K f [.ref A.t, .int (k : Nat)] H Q E :=
  ⟨A, s, k, rfl, h, fun k' x v e hx hv => by
    obtain rfl : k' = k := by omega
    rw [hy] at hx
    obtain rfl := Option.some.inj hx
    exact q v hv, fun no => absurd ⟨by omega, by have := (List.getElem?_eq_some_iff.mp hy).1; omega⟩ no⟩
theorem eq_place {s : TrS} {k : Nat} {H : Hp} {Q : VK} (q : Q (.bl true) H) : rEqU K (placeV s k) (placeV s k) H Q := by
  unfold placeV
  split
  · exact c_eqI (by rw [decide_eq_true rfl]; exact q)
  · exact c_eqSame (d := .none) .non .non rfl q
theorem place_zero {s : TrS} {k : Nat} {H : Hp} {Q : VK} (q : Q (.bl (decide (s.line.head? = some k))) H) : rEqU K (placeV s k) (.int 0) H Q := by
  unfold placeV
  split
  · rename_i g
    refine c_eqI ?_
    have e : decide (((s.line.idxOf k : Nat) : Int) = 0) = decide (s.line.head? = some k) := by
      rw [Bool.eq_iff_iff, decide_eq_true_eq, decide_eq_true_eq]
      cases hl : s.line with
      | nil => rw [hl] at g; cases g
      | cons n r =>
        rw [List.head?_cons, Option.some_inj]
        by_cases h : n = k
        · subst h; simp
        · rw [List.idxOf_cons, beq_false_of_ne h, cond_false]
          constructor
          · intro z; omega
          · intro z; exact absurd z h
    rw [e]
    exact q
  · rename_i g
    have e : decide (s.line.head? = some k) = false := decide_eq_false fun z => g (List.mem_of_mem_head? z)
    rw [e] at q
    exact c_eqD (d := .none) (e := .int 0) .non (.int 0) rfl rfl q
def spWoSameS (K : PySem.W.Frag) : Sp := fun vs H Q _ => ∃ (A : TrA) (B : WoA) (s : TrS) (k : Nat) (y : Sess), vs = [.ref A.t, .ref B.w, .int (k : Nat)] ∧ TrAt K H A s ∧ WoAt K H B s ∧ (∀ x ∈ s.sess, SessOk s x) ∧ s.sess[k]? = some y ∧ (∀ H', Kp [] H H' → Q (.bl true) H')
end
end K36



namespace K36
open PySem L2 Sa
local macro_rules | `(tactic| walk_at "s1") => `(tactic| first | (with_reducible apply c_dgetK))
local macro_rules | `(tactic| walk_at "s1") => `(tactic| (with_reducible apply c_raiseO))
local macro_rules | `(tactic| walk_at "s1") => `(tactic| first | (with_reducible apply c_un) | (with_reducible apply c_negI))
local macro_rules | `(tactic| walk_at "s1") => `(tactic| first | ((with_reducible apply se_g1 (by assumption)); (· walk_at "lk")) | ((with_reducible apply se_p1 (by assumption)); (· walk_at "lk")) | ((with_reducible apply se_g2 (by assumption)); (· walk_at "lk")) | ((with_reducible apply se_p2 (by assumption)); (· walk_at "lk")) | ((with_reducible apply se_g3 (by assumption)); (· walk_at "lk")) | ((with_reducible apply se_p3 (by assumption)); (· walk_at "lk")) | ((with_reducible apply se_g4 (by assumption)); (· walk_at "lk")) | ((with_reducible apply se_p4 (by assumption)); (· walk_at "lk")) | ((with_reducible apply se_g5 (by assumption)); (· walk_at "lk")) | ((with_reducible apply se_p5 (by assumption)); (· walk_at "lk")) | ((with_reducible apply se_r); (· walk_at "lk"); (· decide +kernel)))
local macro_rules | `(tactic| walk_at "s1") => `(tactic| first | ((with_reducible apply li_g1 (by assumption)); (· walk_at "lk")) | ((with_reducible apply li_p1 (by assumption)); (· walk_at "lk")) | ((with_reducible apply li_g2 (by assumption)); (· walk_at "lk")) | ((with_reducible apply li_p2 (by assumption)); (· walk_at "lk")) | ((with_reducible apply li_g3 (by assumption)); (· walk_at "lk")) | ((with_reducible apply li_p3 (by assumption)); (· walk_at "lk")) | ((with_reducible apply li_r); (· walk_at "lk"); (· decide +kernel)))
local macro_rules | `(tactic| walk_at "s1") => `(tactic| first | ((with_reducible apply tr_g1 (by assumption)); (· walk_at "lk")) | ((with_reducible apply tr_p1 (by assumption)); (· walk_at "lk")) | ((with_reducible apply tr_g2 (by assumption)); (· walk_at "lk")) | ((with_reducible apply tr_p2 (by assumption)); (· walk_at "lk")) | ((with_reducible apply tr_g3 (by assumption)); (· walk_at "lk")) | ((with_reducible apply tr_p3 (by assumption)); (· walk_at "lk")) | ((with_reducible apply tr_g4 (by assumption)); (· walk_at "lk")) | ((with_reducible apply tr_p4 (by assumption)); (· walk_at "lk")) | ((with_reducible apply tr_g5 (by assumption)); (· walk_at "lk")) | ((with_reducible apply tr_p5 (by assumption)); (· walk_at "lk")) | ((with_reducible apply tr_g6 (by assumption)); (· walk_at "lk")) | ((with_reducible apply tr_p6 (by assumption)); (· walk_at "lk")) | ((with_reducible apply tr_g7 (by assumption)); (· walk_at "lk")) | ((with_reducible apply tr_p7 (by assumption)); (· walk_at "lk")) | ((with_reducible apply tr_g8 (by assumption)); (· walk_at "lk")) | ((with_reducible apply tr_p8 (by assumption)); (· walk_at "lk")) | ((with_reducible apply tr_g9 (by assumption)); (· walk_at "lk")) | ((with_reducible apply tr_p9 (by assumption)); (· walk_at "lk")) | ((with_reducible apply tr_r); (· walk_at "lk"); (· decide +kernel)))
set_option pp.maxSteps 1500
section
variable {P : Program} {w : World} {K : PySem.W.Frag} {mg : Str → Option Value} {base : Heap}
theorem spTrBegin.mono {vs : List V} {H : Hp} {Q Q' : VK} {E E' : XK} (h : spTrBegin K vs H Q E) (hq : ∀ v H', Q v H' → Q' v H') (he : ∀ c d H', E c d H' → E' c d H') : spTrBegin K vs H Q' E' := by
  obtain ⟨A, s, nm, e, h1, h2, h3, h4, q1, q2, q3⟩ := h
  exact ⟨A, s, nm, e, h1, h2, h3, h4, fun g d H' k x => he _ _ _ (q1 g d H' k x), fun g1 g2 H' k => he _ _ _ (q2 g1 g2 H' k), fun g1 g2 H' A' st => hq _ _ (q3 g1 g2 H' A' st)⟩
theorem spTrActM.mono {vs : List V} {H : Hp} {Q Q' : VK} {E E' : XK} (h : spTrActM K vs H Q E) (hq : ∀ v H', Q v H' → Q' v H') (he : ∀ c d H', E c d H' → E' c d H') : spTrActM K vs H Q' E' := by
  obtain ⟨A, s, i, pos, a, x, e, h1, h2, h3, h4, q1, q2⟩ := h
  refine ⟨A, s, i, pos, a, x, e, h1, h2, h3, h4, fun g => he _ _ _ (q1 g), fun k y e1 e2 e3 => ?_⟩
  obtain ⟨r1, r2⟩ := q2 k y e1 e2 e3
  refine ⟨fun nm g d H' k x => he _ _ _ (r1 nm g d H' k x), fun g => ?_⟩
  obtain ⟨r3, r4⟩ := r2 g
  refine ⟨fun g H' k => he _ _ _ (r3 g H' k), fun g => ?_⟩
  obtain ⟨r5, r6⟩ := r4 g
  exact ⟨fun g H' k => he _ _ _ (r5 g H' k), fun g v H' hv st => hq _ _ (r6 g v H' hv st)⟩
theorem spTrClose.mono {vs : List V} {H : Hp} {Q Q' : VK} {E E' : XK} (h : spTrClose K vs H Q E) (hq : ∀ v H', Q v H' → Q' v H') (he : ∀ c d H', E c d H' → E' c d H') : spTrClose K vs H Q' E' := by
  obtain ⟨A, s, i, e, h1, h2, q1, q2⟩ := h
  exact ⟨A, s, i, e, h1, h2, fun k x H' e1 e2 e3 st => hq _ _ (q1 k x H' e1 e2 e3 st), fun g => he _ _ _ (q2 g)⟩
theorem spTrStand.mono {vs : List V} {H : Hp} {Q Q' : VK} {E E' : XK} (h : spTrStand K vs H Q E) (hq : ∀ v H', Q v H' → Q' v H') (he : ∀ c d H', E c d H' → E' c d H') : spTrStand K vs H Q' E' := by
  obtain ⟨A, s, i, e, h1, h2, h3, q1, q2⟩ := h
  exact ⟨A, s, i, e, h1, h2, h3, fun g => he _ _ _ (q1 g), fun k y e1 e2 e3 v H' e4 hv => hq _ _ (q2 k y e1 e2 e3 v H' e4 hv)⟩
/-- which error is told by which word -/
def Told (K : PySem.W.Frag) (H : Hp) (c : Value) (d : Option Addr) (nm : Str) : Prop :=
  (c = .ref (He.ga K "NoSession") ∧ d = none ∧ nm = "session") ∨ (c = .ref (He.ga K "TooManySessions") ∧ d = none ∧ nm = "sessions") ∨ (c = .ref (He.ga K "WrongPosition") ∧ d = none ∧ nm = "position") ∨
  (c = .ref (He.ga K "JournalFull") ∧ d = none ∧ nm = "journal") ∨ (c = .ref (He.ga K "OutOfRange") ∧ ∃ a, d = some a ∧ H a = some (.xd [("name", .str nm)]))
def rE (K : PySem.W.Frag) (Q : VK) : XK := fun c d H => ∃ nm, Told K H c d nm ∧ ∀ p H', Kp [] H H' → H' p = some (.tup [.str "refused", .str nm]) → Q (.ref p) H'
def spCallT (K : PySem.W.Frag) : Sp := fun vs H Q E => ∃ (A : TrA) (s0 : TrS) (wh : Int) (se x y : V), vs = [.ref A.t, .int wh, se, x, y] ∧ TrAt K H A s0 ∧
  ((wh = 0 ∧ spTrBegin K [.ref A.t, x] H Q E) ∨ (wh = 1 ∧ spTrActM K [.ref A.t, se, x, y] H Q E) ∨ (wh = 2 ∧ spTrClose K [.ref A.t, se] H Q E) ∨ (wh = 3 ∧ spTrStand K [.ref A.t, se] H Q E))
theorem spCallT.mono {vs : List V} {H : Hp} {Q Q' : VK} {E E' : XK} (h : spCallT K vs H Q E) (hq : ∀ v H', Q v H' → Q' v H') (he : ∀ c d H', E c d H' → E' c d H') : spCallT K vs H Q' E' := by
  obtain ⟨A, s0, wh, se, x, y, rfl, h0, h⟩ := h
  refine ⟨A, s0, wh, se, x, y, rfl, h0, ?_⟩
  rcases h with ⟨rfl, h⟩ | ⟨rfl, h⟩ | ⟨rfl, h⟩ | ⟨rfl, h⟩
  · exact .inl ⟨rfl, h.mono hq he⟩
  · exact .inr (.inl ⟨rfl, h.mono hq he⟩)
  · exact .inr (.inr (.inl ⟨rfl, h.mono hq he⟩))
  · exact .inr (.inr (.inr ⟨rfl, h.mono hq he⟩))
def spCalledT (K : PySem.W.Frag) : Sp := fun vs H Q _ => ∃ (a b c d e : V), vs = [a, b, c, d, e] ∧ spCallT K vs H Q (rE K Q)
end
end K36



namespace K36
open PySem L2 Sa
local macro_rules | `(tactic| walk_at "s1") => `(tactic| first | (with_reducible apply c_dgetK))
local macro_rules | `(tactic| walk_at "s1") => `(tactic| (with_reducible apply c_raiseO))
local macro_rules | `(tactic| walk_at "s1") => `(tactic| first | (with_reducible apply c_un) | (with_reducible apply c_negI))
local macro_rules | `(tactic| walk_at "s1") => `(tactic| first | ((with_reducible apply se_g1 (by assumption)); (· walk_at "lk")) | ((with_reducible apply se_p1 (by assumption)); (· walk_at "lk")) | ((with_reducible apply se_g2 (by assumption)); (· walk_at "lk")) | ((with_reducible apply se_p2 (by assumption)); (· walk_at "lk")) | ((with_reducible apply se_g3 (by assumption)); (· walk_at "lk")) | ((with_reducible apply se_p3 (by assumption)); (· walk_at "lk")) | ((with_reducible apply se_g4 (by assumption)); (· walk_at "lk")) | ((with_reducible apply se_p4 (by assumption)); (· walk_at "lk")) | ((with_reducible apply se_g5 (by assumption)); (· walk_at "lk")) | ((with_reducible apply se_p5 (by assumption)); (· walk_at "lk")) | ((with_reducible apply se_r); (· walk_at "lk"); (· decide +kernel)))
local macro_rules | `(tactic| walk_at "s1") => `(tactic| first | ((with_reducible apply li_g1 (by assumption)); (· walk_at "lk")) | ((with_reducible apply li_p1 (by assumption)); (· walk_at "lk")) | ((with_reducible apply li_g2 (by assumption)); (· walk_at "lk")) | ((with_reducible apply li_p2 (by assumption)); (· walk_at "lk")) | ((with_reducible apply li_g3 (by assumption)); (· walk_at "lk")) | ((with_reducible apply li_p3 (by assumption)); (· walk_at "lk")) | ((with_reducible apply li_r); (· walk_at "lk"); (· decide +kernel)))
local macro_rules | `(tactic| walk_at "s1") => `(tactic| first | ((with_reducible apply tr_g1 (by assumption)); (· walk_at "lk")) | ((with_reducible apply tr_p1 (by assumption)); (· walk_at "lk")) | ((with_reducible apply tr_g2 (by assumption)); (· walk_at "lk")) | ((with_reducible apply tr_p2 (by assumption)); (· walk_at "lk")) | ((with_reducible apply tr_g3 (by assumption)); (· walk_at "lk")) | ((with_reducible apply tr_p3 (by assumption)); (· walk_at "lk")) | ((with_reducible apply tr_g4 (by assumption)); (· walk_at "lk")) | ((with_reducible apply tr_p4 (by assumption)); (· walk_at "lk")) | ((with_reducible apply tr_g5 (by assumption)); (· walk_at "lk")) | ((with_reducible apply tr_p5 (by assumption)); (· walk_at "lk")) | ((with_reducible apply tr_g6 (by assumption)); (· walk_at "lk")) | ((with_reducible apply tr_p6 (by assumption)); (· walk_at "lk")) | ((with_reducible apply tr_g7 (by assumption)); (· walk_at "lk")) | ((with_reducible apply tr_p7 (by assumption)); (· walk_at "lk")) | ((with_reducible apply tr_g8 (by assumption)); (· walk_at "lk")) | ((with_reducible apply tr_p8 (by assumption)); (· walk_at "lk")) | ((with_reducible apply tr_g9 (by assumption)); (· walk_at "lk")) | ((with_reducible apply tr_p9 (by assumption)); (· walk_at "lk")) | ((with_reducible apply tr_r); (· walk_at "lk"); (· decide +kernel)))
set_option pp.maxSteps 1500
/-- a trunk within its bounds -/
structure TrOk (s : TrS) : Prop where
  se : ∀ y ∈ s.sess, SessOk s y
  sn : s.sess.length ≤ 200
  ln : s.line.length ≤ 200
  lm : ∀ k ∈ s.line, k < 1000
  ld : s.line.Nodup
  tn : s.trees.length ≤ 201
  en : s.ents.length + 1 = s.trees.length
  eo : ∀ e ∈ s.ents, okS e.1 = true ∧ e.1.length ≤ 8 ∧ e.2.length ≤ 40 ∧ ∀ x ∈ e.2, EntOk x ∧ Fit 3 14000 x.2
theorem ent_nice {e : Str × List Entry} (h1 : okS e.1 = true) (h2 : e.1.length ≤ 8) (h3 : e.2.length ≤ 40) (h4 : ∀ x ∈ e.2, EntOk x ∧ Fit 3 14000 x.2) : Nice (entsD e) :=
  (((FitAll.cons ((Fit.str h1 h2).mono (by omega : 0 ≤ 5) (Nat.le_refl _)) (FitAll.cons (fit_jour2 h4 h3) FitAll.nil)).tup).mono (Nat.le_refl _) (by omega : _ ≤ 700000)).nice (by decide) (by decide)
theorem line_nice {l : List Nat} (h1 : l.length ≤ 200) (h2 : ∀ k ∈ l, k < 1000) : Nice (.list ((l.map fun n => ((n : Nat) : Int)).map PyData.int)) := by
  have := FitAll.of (n := 0) (w := 10) (ds := (l.map fun n => ((n : Nat) : Int)).map PyData.int) (fun d hd => by
    obtain ⟨i, hi, rfl⟩ := List.mem_map.mp hd
    obtain ⟨k, hk, rfl⟩ := List.mem_map.mp hi
    exact Fit.nat (h2 k hk))
  rw [List.length_map, List.length_map] at this
  exact (this.lst.mono (Nat.le_refl _) (by omega : _ ≤ 3000)).nice (by decide) (by decide)
section
variable {P : Program} {w : World} {K : PySem.W.Frag} {mg : Str → Option Value} {base : Heap}
def spWoSame (K : PySem.W.Frag) : Sp := fun vs H Q _ => ∃ (A : TrA) (B : WoA) (s : TrS), vs = [.ref A.t, .ref B.w] ∧ TrAt K H A s ∧ WoAt K H B s ∧ TrOk s ∧ (∀ H', Kp [] H H' → Q (.bl true) H')
end
end K36



namespace K36
open PySem L2 Sa
local macro_rules | `(tactic| walk_at "s1") => `(tactic| first | (with_reducible apply c_dgetK))
local macro_rules | `(tactic| walk_at "s1") => `(tactic| (with_reducible apply c_raiseO))
local macro_rules | `(tactic| walk_at "s1") => `(tactic| first | (with_reducible apply c_un) | (with_reducible apply c_negI))
local macro_rules | `(tactic| walk_at "s1") => `(tactic| first | ((with_reducible apply se_g1 (by assumption)); (· walk_at "lk")) | ((with_reducible apply se_p1 (by assumption)); (· walk_at "lk")) | ((with_reducible apply se_g2 (by assumption)); (· walk_at "lk")) | ((with_reducible apply se_p2 (by assumption)); (· walk_at "lk")) | ((with_reducible apply se_g3 (by assumption)); (· walk_at "lk")) | ((with_reducible apply se_p3 (by assumption)); (· walk_at "lk")) | ((with_reducible apply se_g4 (by assumption)); (· walk_at "lk")) | ((with_reducible apply se_p4 (by assumption)); (· walk_at "lk")) | ((with_reducible apply se_g5 (by assumption)); (· walk_at "lk")) | ((with_reducible apply se_p5 (by assumption)); (· walk_at "lk")) | ((with_reducible apply se_r); (· walk_at "lk"); (· decide +kernel)))
local macro_rules | `(tactic| walk_at "s1") => `(tactic| first | ((with_reducible apply li_g1 (by assumption)); (· walk_at "lk")) | ((with_reducible apply li_p1 (by assumption)); (· walk_at "lk")) | ((with_reducible apply li_g2 (by assumption)); (· walk_at "lk")) | ((with_reducible apply li_p2 (by assumption)); (· walk_at "lk")) | ((with_reducible apply li_g3 (by assumption)); (· walk_at "lk")) | ((with_reducible apply li_p3 (by assumption)); (· walk_at "lk")) | ((with_reducible apply li_r); (· walk_at "lk"); (· decide +kernel)))
local macro_rules | `(tactic| walk_at "s1") => `(tactic| first | ((with_reducible apply tr_g1 (by assumption)); (· walk_at "lk")) | ((with_reducible apply tr_p1 (by assumption)); (· walk_at "lk")) | ((with_reducible apply tr_g2 (by assumption)); (· walk_at "lk")) | ((with_reducible apply tr_p2 (by assumption)); (· walk_at "lk")) | ((with_reducible apply tr_g3 (by assumption)); (· walk_at "lk")) | ((with_reducible apply tr_p3 (by assumption)); (· walk_at "lk")) | ((with_reducible apply tr_g4 (by assumption)); (· walk_at "lk")) | ((with_reducible apply tr_p4 (by assumption)); (· walk_at "lk")) | ((with_reducible apply tr_g5 (by assumption)); (· walk_at "lk")) | ((with_reducible apply tr_p5 (by assumption)); (· walk_at "lk")) | ((with_reducible apply tr_g6 (by assumption)); (· walk_at "lk")) | ((with_reducible apply tr_p6 (by assumption)); (· walk_at "lk")) | ((with_reducible apply tr_g7 (by assumption)); (· walk_at "lk")) | ((with_reducible apply tr_p7 (by assumption)); (· walk_at "lk")) | ((with_reducible apply tr_g8 (by assumption)); (· walk_at "lk")) | ((with_reducible apply tr_p8 (by assumption)); (· walk_at "lk")) | ((with_reducible apply tr_g9 (by assumption)); (· walk_at "lk")) | ((with_reducible apply tr_p9 (by assumption)); (· walk_at "lk")) | ((with_reducible apply tr_r); (· walk_at "lk"); (· decide +kernel)))
set_option pp.maxSteps 1500
section
variable {K : PySem.W.Frag} {H H' : Hp} {A A' : TrA} {B B' : WoA} {s s2 s' : TrS} {b d : Addr}
theorem bx_kpM {ms : List Addr} {H H' : Hp} {b d : Addr} (B : Bx H b d) (e : Kp ms H H') (n1 : b ∉ ms) (n2 : d ∉ ms) : Bx H' b d := by
  obtain ⟨at_, ds, h1, h2, h3⟩ := B.ex
  exact ⟨at_, ds, e _ _ n1 h1, e _ _ n2 h2, h3⟩
theorem bx_some (X : Bx H b d) : (∃ o, H b = some o) ∧ ∃ o, H d = some o := by
  obtain ⟨_, _, h1, h2, _⟩ := X.ex
  exact ⟨⟨_, h1⟩, _, h2⟩
/-- trunk, world and box apart from each other -/
structure Joint (K : PySem.W.Frag) (H : Hp) (A : TrA) (B : WoA) (b d : Addr) (s s2 : TrS) : Prop where
  tr : TrAt K H A s
  wo : WoAt K H B s2
  dj : ∀ a ∈ own A, a ∉ own2 B
  bx : Bx H b d
  ba : b ∉ own A
  bb : b ∉ own2 B
  da : d ∉ own A
  db : d ∉ own2 B
theorem Joint.kp (J : Joint K H A B b d s s2) (e : Kp [] H H') : Joint K H' A B b d s s2 := ⟨J.tr.kp e, J.wo.kp e, J.dj, J.bx.kp0 e, J.ba, J.bb, J.da, J.db⟩
theorem Joint.draw (J : Joint K H A B b d s s2) (e : Kp [b] H H') (X : Bx H' b d) : Joint K H' A B b d s s2 := ⟨J.tr.box J.bx e J.ba, J.wo.box J.bx e J.bb, J.dj, X, J.ba, J.bb, J.da, J.db⟩
theorem Joint.stp (J : Joint K H A B b d s s2) (S : Stp K H A H' A' s') : Joint K H' A' B b d s' s2 := by
  obtain ⟨⟨o1, h1⟩, o2, h2⟩ := bx_some J.bx
  refine ⟨S.at_, J.wo.kpm S.kp (fun a ha z => J.dj a z ha) S.fk, fun a ha z => ?_, bx_kpM J.bx S.kp J.ba J.da, fun z => ?_, J.bb, fun z => ?_, J.db⟩
  · rcases S.ow a ha with g | g
    · exact J.dj a g z
    · obtain ⟨xs, h⟩ := J.wo.fat a z
      rw [g] at h
      cases h
  · rcases S.ow b z with g | g
    · exact J.ba g
    · rw [g] at h1; cases h1
  · rcases S.ow d z with g | g
    · exact J.da g
    · rw [g] at h2; cases h2
theorem Joint.stw (J : Joint K H A B b d s s2) (S : Stw K H B H' B' s') : Joint K H' A B' b d s s' := by
  obtain ⟨⟨o1, h1⟩, o2, h2⟩ := bx_some J.bx
  refine ⟨J.tr.kpm S.kp J.dj S.fk, S.at_, fun a ha z => ?_, bx_kpM J.bx S.kp J.bb J.db, J.ba, fun z => ?_, J.da, fun z => ?_⟩
  · rcases S.ow a z with g | g
    · exact J.dj a ha g
    · obtain ⟨o, h, _⟩ := J.tr.fat a ha
      rw [g] at h
      cases h
  · rcases S.ow b z with g | g
    · exact J.bb g
    · rw [g] at h1; cases h1
  · rcases S.ow d z with g | g
    · exact J.db g
    · rw [g] at h2; cases h2
structure NdB (B : WoA) : Prop where
  ww : B.w ≠ B.l0 ∧ B.w ≠ B.l1 ∧ B.w ≠ B.l2 ∧ B.w ≠ B.l3 ∧ B.w ≠ B.l4 ∧ B.w ≠ B.l5 ∧ B.w ≠ B.l8
  rs : ∀ a ∈ B.rs, a ≠ B.w ∧ a ≠ B.l0 ∧ a ≠ B.l1 ∧ a ≠ B.l2 ∧ a ≠ B.l3 ∧ a ≠ B.l4 ∧ a ≠ B.l5 ∧ a ≠ B.l8
  rn : B.rs.Nodup
theorem WoAt.ndb (h : WoAt K H B s) : NdB B := by
  have nd := h.nd
  simp only [own2, List.cons_append, List.nil_append, List.nodup_cons, List.mem_cons, not_or] at nd
  obtain ⟨⟨a1, a2, a3, a4, a5, a6, a7, a8⟩, ⟨_, _, _, _, _, _, b8⟩, ⟨_, _, _, _, _, c8⟩, ⟨_, _, _, _, d8⟩, ⟨_, _, _, e8⟩, ⟨_, _, f8⟩, ⟨_, g8⟩, h8, nd⟩ := nd
  exact ⟨⟨a1, a2, a3, a4, a5, a6, a7⟩, fun a ha => ⟨fun e => a8 (e ▸ ha), fun e => b8 (e ▸ ha), fun e => c8 (e ▸ ha), fun e => d8 (e ▸ ha), fun e => e8 (e ▸ ha), fun e => f8 (e ▸ ha), fun e => g8 (e ▸ ha), fun e => h8 (e ▸ ha)⟩, nd⟩
theorem RowAt.kp {a : Addr} {x : Sess} (h : RowAt K H a x) (e : Kp [] H H') : RowAt K H' a x := by
  obtain ⟨j, h1, h2⟩ := h.ex
  exact ⟨j, e.at0 h1, Dt.kp h2 e⟩
theorem own2_rs {a : Addr} (h : a ∈ B.rs) : a ∈ own2 B := List.mem_append_right _ h
theorem own2_w : B.w ∈ own2 B := by simp [own2]
/-- a row of the world is written to -/
theorem WoAt.rowset (h : WoAt K H B s) {k : Nat} {a : Addr} {x : Sess} (hx : s.sess[k]? = some x) (ha : B.rs[k]? = some a) {x' : Sess} {j : Addr} (hj : Dt K H (.ref j) (jourD x'.jour)) :
    Stw K H B (upd H a (.lst [.str x'.nm, .int (x'.base : Nat), .ref j, .int (x'.refs : Nat), .str x'.st])) B (s.sset k x') := by
  have hm := List.mem_of_getElem? ha
  have nd := h.ndb
  obtain ⟨n0, n1, n2, n3, n4, n5, n6, n7⟩ := nd.rs a hm
  obtain ⟨xs, g1⟩ := h.fat a (own2_rs hm)
  have fk : Fk H (upd H a (.lst [.str x'.nm, .int (x'.base : Nat), .ref j, .int (x'.refs : Nat), .str x'.st])) := Fk.mut g1 trivial
  refine ⟨⟨upd_other n0.symm h.w, upd_other n1.symm h.l0, h.fn, fun i b gs h1 h2 => (h.tb i b gs h1 h2).fk fk, upd_other n2.symm h.l1, DtAll.kt fk.kt h.es, upd_other n3.symm h.l2, by
    show B.rs.length = (s.sess.set k x').length
    rw [List.length_set]; exact h.rn, fun i b y h1 h2 => ?_, upd_other n4.symm h.l3, upd_other n5.symm h.l4, upd_other n6.symm h.l5, fk _ _ h.d6 (fun z => z), fk _ _ h.d7 (fun z => z), upd_other n7.symm h.l8, h.nd⟩, Kp.mut (own2_rs hm), fk, fun _ h => .inl h, rfl⟩
  by_cases e : i = k
  · subst e
    rw [ha] at h1
    obtain rfl := Option.some.inj h1
    have h2 : (s.sess.set i x')[i]? = some y := h2
    rw [List.getElem?_set_self (List.getElem?_eq_some_iff.mp hx).1] at h2
    obtain rfl := Option.some.inj h2
    exact ⟨j, upd_same, Dt.kt fk.kt hj⟩
  · have h2 : (s.sess.set k x')[i]? = some y := h2
    rw [List.getElem?_set_ne (Ne.symm e)] at h2
    have nb : b ≠ a := fun z => e ((List.getElem?_inj (List.getElem?_eq_some_iff.mp h1).1 nd.rn).mp (by rw [h1, ha, z]))
    exact (h.rw_ i b y h1 h2).fr (by rw [upd_ne nb]) fk
theorem Stw.pre {H0 : Hp} (h0 : Kp [] H0 H) (h : WoAt K H0 B s) (S : Stw K H B H' B' s') : Stw K H0 B H' B' s' :=
  ⟨S.at_, h0.mono.trans S.kp, (kp_fk h0).trans S.fk, fun a ha => by
    rcases S.ow a ha with g | g
    · exact .inl g
    · exact .inr (free0 h0 g), S.ww⟩
/-- a new row behind the others -/
theorem WoAt.addS {H0 : Hp} (h0 : WoAt K H0 B s) (k : Kp [] H0 H) {r l : Addr} {y : Sess} (hr : RowAt K H r y) (hl : H l = some (.lst ((B.rs ++ [r]).map V.ref))) (fr : H0 r = none) (fl : H0 l = none) (ne : r ≠ l) :
    Stw K H0 B (upd H B.w (.lst [.ref B.l0, .ref B.l1, .ref l, .ref B.l3, .ref B.l4, .ref B.l5, .ref B.d6, .ref B.d7, .ref B.l8])) { B with l2 := l, rs := B.rs ++ [r] } (s.add y) := by
  have h := h0.kp k
  have nd := h.ndb
  have nin : ∀ {a}, H0 a = none → a ∉ own2 B := fun {a} f z => by obtain ⟨xs, g⟩ := h0.fat a z; rw [f] at g; cases g
  obtain ⟨n0, n1, n2, n3, n4, n5, n7⟩ := nd.ww
  have fk : Fk H (upd H B.w (.lst [.ref B.l0, .ref B.l1, .ref l, .ref B.l3, .ref B.l4, .ref B.l5, .ref B.d6, .ref B.d7, .ref B.l8])) := Fk.mut h.w trivial
  have nrw : r ≠ B.w := fun e => nin fr (e ▸ own2_w)
  have nlw : l ≠ B.w := fun e => nin fl (e ▸ own2_w)
  refine ⟨⟨upd_same, upd_other n0.symm h.l0, h.fn, fun i b gs h1 h2 => (h.tb i b gs h1 h2).fk fk, upd_other n1.symm h.l1, DtAll.kt fk.kt h.es, upd_other nlw hl, by
    show (B.rs ++ [r]).length = (s.sess ++ [y]).length
    rw [List.length_append, List.length_append, h.rn]; rfl, fun i b x h1 h2 => ?_, upd_other n3.symm h.l3, upd_other n4.symm h.l4, upd_other n5.symm h.l5, fk _ _ h.d6 (fun z => z), fk _ _ h.d7 (fun z => z), upd_other n7.symm h.l8, ?_⟩, k.mono.trans (Kp.mut own2_w), (kp_fk k).trans fk, fun a ha => ?_, rfl⟩
  · have h1 : (B.rs ++ [r])[i]? = some b := h1
    have h2 : (s.sess ++ [y])[i]? = some x := h2
    by_cases hi : i < B.rs.length
    · rw [List.getElem?_append_left hi] at h1
      rw [List.getElem?_append_left (by rw [← h.rn]; exact hi)] at h2
      exact (h.rw_ i b x h1 h2).fr (by rw [upd_ne (nd.rs b (List.mem_of_getElem? h1)).1]) fk
    · rw [List.getElem?_append_right (by omega)] at h1
      rw [List.getElem?_append_right (by rw [← h.rn]; omega), ← h.rn] at h2
      cases hz : i - B.rs.length with
      | zero =>
        rw [hz] at h1 h2
        obtain rfl := Option.some.inj h1
        obtain rfl := Option.some.inj h2
        exact hr.fr (by rw [upd_ne nrw]) fk
      | succ n => rw [hz] at h1; cases h1
  · have nd0 := h.nd
    have f1 := nin fr
    have f2 := nin fl
    simp only [own2, List.cons_append, List.nil_append, List.nodup_cons, List.mem_cons, List.mem_append, List.not_mem_nil, or_false, not_or, List.nodup_append] at nd0 f1 f2 ⊢
    grind
  · simp only [own2, List.cons_append, List.nil_append, List.mem_cons, List.mem_append, List.not_mem_nil, or_false] at ha ⊢
    rcases ha with ha | ha | ha | ha | ha | ha | ha | ha | ha | ha
    · exact .inl (.inl ha)
    · exact .inl (.inr (.inl ha))
    · exact .inl (.inr (.inr (.inl ha)))
    · exact .inr (ha ▸ fl)
    · exact .inl (.inr (.inr (.inr (.inr (.inl ha)))))
    · exact .inl (.inr (.inr (.inr (.inr (.inr (.inl ha))))))
    · exact .inl (.inr (.inr (.inr (.inr (.inr (.inr (.inl ha)))))))
    · exact .inl (.inr (.inr (.inr (.inr (.inr (.inr (.inr (.inl ha))))))))
    · exact .inl (.inr (.inr (.inr (.inr (.inr (.inr (.inr (.inr ha))))))))
    · exact .inr (ha ▸ fr)
end
end K36



namespace K36
open PySem L2 Sa
local macro_rules | `(tactic| walk_at "s1") => `(tactic| first | (with_reducible apply c_dgetK))
local macro_rules | `(tactic| walk_at "s1") => `(tactic| (with_reducible apply c_raiseO))
local macro_rules | `(tactic| walk_at "s1") => `(tactic| first | (with_reducible apply c_un) | (with_reducible apply c_negI))
local macro_rules | `(tactic| walk_at "s1") => `(tactic| first | ((with_reducible apply se_g1 (by assumption)); (· walk_at "lk")) | ((with_reducible apply se_p1 (by assumption)); (· walk_at "lk")) | ((with_reducible apply se_g2 (by assumption)); (· walk_at "lk")) | ((with_reducible apply se_p2 (by assumption)); (· walk_at "lk")) | ((with_reducible apply se_g3 (by assumption)); (· walk_at "lk")) | ((with_reducible apply se_p3 (by assumption)); (· walk_at "lk")) | ((with_reducible apply se_g4 (by assumption)); (· walk_at "lk")) | ((with_reducible apply se_p4 (by assumption)); (· walk_at "lk")) | ((with_reducible apply se_g5 (by assumption)); (· walk_at "lk")) | ((with_reducible apply se_p5 (by assumption)); (· walk_at "lk")) | ((with_reducible apply se_r); (· walk_at "lk"); (· decide +kernel)))
local macro_rules | `(tactic| walk_at "s1") => `(tactic| first | ((with_reducible apply li_g1 (by assumption)); (· walk_at "lk")) | ((with_reducible apply li_p1 (by assumption)); (· walk_at "lk")) | ((with_reducible apply li_g2 (by assumption)); (· walk_at "lk")) | ((with_reducible apply li_p2 (by assumption)); (· walk_at "lk")) | ((with_reducible apply li_g3 (by assumption)); (· walk_at "lk")) | ((with_reducible apply li_p3 (by assumption)); (· walk_at "lk")) | ((with_reducible apply li_r); (· walk_at "lk"); (· decide +kernel)))
local macro_rules | `(tactic| walk_at "s1") => `(tactic| first | ((with_reducible apply tr_g1 (by assumption)); (· walk_at "lk")) | ((with_reducible apply tr_p1 (by assumption)); (· walk_at "lk")) | ((with_reducible apply tr_g2 (by assumption)); (· walk_at "lk")) | ((with_reducible apply tr_p2 (by assumption)); (· walk_at "lk")) | ((with_reducible apply tr_g3 (by assumption)); (· walk_at "lk")) | ((with_reducible apply tr_p3 (by assumption)); (· walk_at "lk")) | ((with_reducible apply tr_g4 (by assumption)); (· walk_at "lk")) | ((with_reducible apply tr_p4 (by assumption)); (· walk_at "lk")) | ((with_reducible apply tr_g5 (by assumption)); (· walk_at "lk")) | ((with_reducible apply tr_p5 (by assumption)); (· walk_at "lk")) | ((with_reducible apply tr_g6 (by assumption)); (· walk_at "lk")) | ((with_reducible apply tr_p6 (by assumption)); (· walk_at "lk")) | ((with_reducible apply tr_g7 (by assumption)); (· walk_at "lk")) | ((with_reducible apply tr_p7 (by assumption)); (· walk_at "lk")) | ((with_reducible apply tr_g8 (by assumption)); (· walk_at "lk")) | ((with_reducible apply tr_p8 (by assumption)); (· walk_at "lk")) | ((with_reducible apply tr_g9 (by assumption)); (· walk_at "lk")) | ((with_reducible apply tr_p9 (by assumption)); (· walk_at "lk")) | ((with_reducible apply tr_r); (· walk_at "lk"); (· decide +kernel)))
set_option pp.maxSteps 1500
/-! ## versions are made -/
def TrS.tick (s : TrS) : TrS := { s with events := s.events + 1 }
def TrS.event (s : TrS) : TrS := if s.events + 1 < s.all then s.tick else match s.line with
  | [] => s
  | k :: _ => (s.tick.leave k).sset k { s.sess.getD k d0S with refs := 0 }
def TrS.ver (s : TrS) (nm : Str) (js : List Entry) (fs : List File) : TrS := { s with trees := s.trees ++ [fs], ents := s.ents ++ [(nm, js)] }
/-- what a version does to the first in the line -/
def TrS.shift (s : TrS) (who : Option Nat) : TrS := match s.line with
  | [] => s
  | k :: _ => if who = some k then s else if s.prot then s.sset k { s.sess.getD k d0S with base := s.trees.length - 1 } else s.event
def TrS.out (s : TrS) (who : Option Nat) : TrS := match who with
  | none => s
  | some k => s.leave k
def TrS.make (s : TrS) (nm : Str) (js : List Entry) (fs : List File) (who : Option Nat) : TrS := ((s.ver nm js fs).shift who).out who
abbrev whoV (who : Option Nat) : V := match who with
  | none => .non
  | some k => .int (k : Nat)
section
variable {P : Program} {w : World} {K : PySem.W.Frag} {mg : Str → Option Value} {base : Heap}
theorem leave_sess (s : TrS) (k : Nat) : (s.leave k).sess = s.sess ∧ (s.leave k).trees = s.trees ∧ (s.leave k).ents = s.ents ∧ (s.leave k).all = s.all ∧ (s.leave k).pat = s.pat := by
  unfold TrS.leave
  split <;> exact ⟨rfl, rfl, rfl, rfl, rfl⟩
def spLiCount (K : PySem.W.Frag) : Sp := fun vs H Q _ => ∃ (A : TrA) (s : TrS) (k : Nat) (r : List Nat), vs = [.ref A.li, .int (s.all : Nat)] ∧ TrAt K H A s ∧ s.line = k :: r ∧ s.line.length ≤ 1000 ∧
  (s.events + 1 < s.all → ∀ H', Stp K H A H' A s.tick → Q .non H') ∧ (¬ s.events + 1 < s.all → ∀ H', Stp K H A H' A (s.tick.leave k) → Q (.int (k : Nat)) H')
theorem sc_Line_count : FnScope ["self", "allowance", "session"] ["self", "allowance"] (defScope s_Line_count) := ⟨rfl, rfl, rfl, by decide +kernel, rfl, by decide +kernel, by decide +kernel⟩
theorem bn_Line_count : BindM "count" "Line.count" s_Line_count ["self", "allowance"] := fun _ _ _ _ _ _ us hl => match us, hl with | [_, _], _ => rfl
theorem b_Line_count (T : TX K mg) : BodyM P w K mg base "Line" "count" "Line.count" s_Line_count ["self", "allowance", "session"] 2 (spLiCount K) := by
  intro cdv A outer s H vs Q E h X hr
  obtain ⟨A, s, k, r, rfl, h, hl, hn, q1, q2⟩ := h
  have C_Line := C_Line T; have M_Line_leave := M_Line_leave (P := P) (w := w) (base := base) T
  refine ⟨_, (pss_cons (ps_fldU (K := K) (pv 0) (pe_op (op_addU (K := K)) (pe_fldU (K := K) (pv 0)) pe_int)) (pss_cons (ps_if (pt_cmpR op_ltU (pe_fldU (K := K) (pv 0)) (pv 1) (nomark _)) (pss_one (ps_ret pe_non)) pss_nil) (pss_cons (ps_set (i := 2) sc_Line_count.nd rfl (Or.inl rfl) (pe_ix (ix_U (K := K)) (pe_fldU (K := K) (pv 0)) pe_int (fun _ _ => rfl))) (pss_cons (ps_expr (pe_methS1 M_Line_leave C_Line hr at0 (pv 0) (pa_cons (pv 2) pa_nil))) (pss_one (ps_ret (pv 2))))))), ?_⟩
  have hli := h.li
  walk_at "st"
  rw [show ((s.events : Nat) : Int) + 1 = ((s.events + 1 : Nat) : Int) by omega]
  have e1 := h.liset (p := s.prot) (n := s.events + 1)
  have h1 := e1.at_
  generalize hH : upd H A.li (.ins (He.ga K "Line") A.dy (liF (.ref A.ll) (.bl s.prot) (.int ((s.events + 1 : Nat) : Int)))) = H1 at e1 h1
  simp only [hH]
  have hli1 : H1 A.li = some (.ins (He.ga K "Line") A.dy (liF (.ref A.ll) (.bl s.prot) (.int ((s.events + 1 : Nat) : Int)))) := h1.li
  have hll1 : SqL K H1 A.ll ((s.line.map fun n => ((n : Nat) : Int)).map V.int) := SqL.of h1.ll
  walk_at "st"
  refine c_ite (fun g => ?_) (fun g => ?_)
  · walk_at "st"
    exact q1 (by omega) H1 e1
  · rw [hl] at hll1
    walk_at "st"
    first | (refine c_ixL (v := .int (k : Nat)) hll1 (by simp [atI, ixN]) ?_; walk_at "st") | skip
    refine ⟨A, s.tick, _, rfl, h1, hn, .inr ⟨k, rfl, fun H2 e2 => ?_⟩⟩
    walk_at "st"
    exact q2 (by omega) H2 (e1.trans e2 h)
theorem M_Line_count (T : TX K mg) : MethAt P w K mg base CX0 "Line" "count" 3 ["self", "allowance"] (spLiCount K) :=
  meth_of T 76 109 sc_Line_count bn_Line_count (by walk_at "len") (b_Line_count T)
def spTrEvent (K : PySem.W.Frag) : Sp := fun vs H Q _ => ∃ (A : TrA) (s : TrS) (k : Nat) (r : List Nat) (y : Sess), vs = [.ref A.t] ∧ TrAt K H A s ∧ s.line = k :: r ∧ s.line.length ≤ 1000 ∧ s.sess[k]? = some y ∧ ∀ H', Stp K H A H' A s.event → Q .non H'
theorem sc_Trunk__count_event : FnScope ["self", "gone"] ["self"] (defScope s_Trunk__count_event) := ⟨rfl, rfl, rfl, by decide +kernel, rfl, by decide +kernel, by decide +kernel⟩
theorem bn_Trunk__count_event : BindM "_count_event" "Trunk._count_event" s_Trunk__count_event ["self"] := fun _ _ _ _ _ _ us hl => match us, hl with | [_], _ => rfl
theorem b_Trunk__count_event (T : TX K mg) : BodyM P w K mg base "Trunk" "_count_event" "Trunk._count_event" s_Trunk__count_event ["self", "gone"] 3 (spTrEvent K) := by
  intro cdv A outer s H vs Q E h X hr
  obtain ⟨A, s, k, r, y, rfl, h, hl, hn, hy, q⟩ := h
  have C_Line := C_Line T; have M_Line_count := M_Line_count (P := P) (w := w) (base := base) T
  refine ⟨_, (pss_cons (ps_set (i := 1) sc_Trunk__count_event.nd rfl (Or.inl rfl) (pe_methS1 M_Line_count C_Line hr at0 (pe_fldU (K := K) (pv 0)) (pa_cons (pe_fldU (K := K) (pv 0)) pa_nil))) (pss_one (ps_if (pt_cmpR op_isNotU (pv 1) pe_non (nomark _)) (pss_one (ps_fldU (K := K) (pe_ix (ix_U (K := K)) (pe_fldU (K := K) (pv 0)) (pv 1) (fun _ _ => rfl)) pe_int)) pss_nil))), ?_⟩
  have ht := h.t
  have hli := h.li
  have hgd : s.sess.getD k d0S = y := getD_of hy
  walk_at "st"
  refine ⟨A, s, k, r, rfl, h, hl, hn, fun g H1 e1 => ?_, fun g H1 e1 => ?_⟩
  · have q := q H1
    unfold TrS.event at q
    rw [if_pos g] at q
    walk_at "dc"
    exact q e1
  · have h1 := e1.at_
    have ht1 := h1.t
    obtain ⟨ls, lt, le, la, lp⟩ := leave_sess s.tick k
    have hy1 : (s.tick.leave k).sess[k]? = some y := by rw [ls]; exact hy
    obtain ⟨a, ha, hs⟩ := h1.at hy1
    obtain ⟨dx, j, g1, g2⟩ := hs.ex
    walk_at "dc"
    first | (refine c_ixL (v := .ref a) (SqL.of h1.sl) (atI_nat (j := k) (by rw [List.getElem?_map, ha]; rfl)) ?_; walk_at "st") | skip
    have e2 := h1.sset hy1 ha (x' := { y with refs := 0 }) (dx := dx) g2
    have e3 := e1.trans e2 h
    have q := q _ (by
      unfold TrS.event
      rw [if_neg g, hl]
      dsimp only
      rw [hgd]
      exact e3)
    exact q
theorem M_Trunk__count_event (T : TX K mg) : MethAt P w K mg base CX0 "Trunk" "_count_event" 4 ["self"] (spTrEvent K) :=
  meth_of T 84 118 sc_Trunk__count_event bn_Trunk__count_event (by walk_at "len") (b_Trunk__count_event T)
section
variable {H : Hp} {A : TrA} {s : TrS}
theorem event_line (s : TrS) : s.event.line.length ≤ s.line.length := by
  unfold TrS.event
  split
  · exact Nat.le_refl _
  · split
    · exact Nat.le_refl _
    · show (s.tick.leave _).line.length ≤ _
      unfold TrS.leave
      split
      · exact List.length_erase_le ..
      · exact Nat.le_refl _
theorem event_trees (s : TrS) : s.event.trees = s.trees := by
  unfold TrS.event
  split
  · rfl
  · split
    · rfl
    · exact (leave_sess s.tick _).2.1
theorem shift_trees (s : TrS) (who : Option Nat) : (s.shift who).trees = s.trees := by
  unfold TrS.shift
  split
  · rfl
  · split
    · rfl
    · split
      · rfl
      · exact event_trees s
theorem out_trees (s : TrS) (who : Option Nat) : (s.out who).trees = s.trees := by
  unfold TrS.out
  split
  · rfl
  · exact (leave_sess s _).2.1
theorem TrAt.tadd (h : TrAt K H A s) {t : Addr} {fs : List File} (hT : TreeG K H t fs) : Stp K H A (upd H A.tl (.lst ((A.ts ++ [t]).map V.ref))) { A with ts := A.ts ++ [t] } { s with trees := s.trees ++ [fs] } := by
  have nd := h.nda
  obtain ⟨o', g1, g2⟩ := h.fat A.tl own_tl
  have fk : Fk H (upd H A.tl (.lst ((A.ts ++ [t]).map V.ref))) := Fk.mut g1 g2
  refine ⟨⟨upd_other nd.t1 h.t, upd_same, ?_, fun i b gs h1 h2 => ?_, upd_other nd.l1.symm h.el, DtAll.kt fk.kt h.es, upd_other nd.l2.symm h.sl, h.sn,
    fun i b y h1 h2 => (h.se i b y h1 h2).fr (by rw [upd_ne (nd.ss b (List.mem_of_getElem? h1)).2.1]) fk, upd_other nd.l3.symm h.li, upd_other nd.l4.symm h.ll, fk _ _ h.ck (fun z => z), fk _ _ h.vd (fun z => z), h.nd⟩, Kp.mut own_tl, fk, fun _ h => .inl h, rfl⟩
  · show (A.ts ++ [t]).length = (s.trees ++ [fs]).length
    rw [List.length_append, List.length_append, h.tn]; rfl
  · have h1 : (A.ts ++ [t])[i]? = some b := h1
    have h2 : (s.trees ++ [fs])[i]? = some gs := h2
    by_cases hi : i < A.ts.length
    · rw [List.getElem?_append_left hi] at h1
      rw [List.getElem?_append_left (by rw [← h.tn]; exact hi)] at h2
      exact (h.tr i b gs h1 h2).fk fk
    · rw [List.getElem?_append_right (by omega)] at h1
      rw [List.getElem?_append_right (by rw [← h.tn]; omega), ← h.tn] at h2
      cases hz : i - A.ts.length with
      | zero =>
        rw [hz] at h1 h2
        obtain rfl := Option.some.inj h1
        obtain rfl := Option.some.inj h2
        exact hT.fk fk
      | succ n => rw [hz] at h1; cases h1
theorem TrAt.eadd (h : TrAt K H A s) {v : V} {e : Str × List Entry} (hv : Dt K H v (entsD e)) : Stp K H A (upd H A.el (.lst (A.es ++ [v]))) { A with es := A.es ++ [v] } { s with ents := s.ents ++ [e] } := by
  have nd := h.nda
  obtain ⟨o', g1, g2⟩ := h.fat A.el own_el
  have fk : Fk H (upd H A.el (.lst (A.es ++ [v]))) := Fk.mut g1 g2
  refine ⟨⟨upd_other nd.t2 h.t, upd_other nd.l1 h.tl, h.tn, fun i b fs h1 h2 => (h.tr i b fs h1 h2).fk fk, upd_same, ?_, upd_other nd.e1.symm h.sl, h.sn,
    fun i b y h1 h2 => (h.se i b y h1 h2).fr (by rw [upd_ne (nd.ss b (List.mem_of_getElem? h1)).2.2.1]) fk, upd_other nd.e2.symm h.li, upd_other nd.e3.symm h.ll, fk _ _ h.ck (fun z => z), fk _ _ h.vd (fun z => z), h.nd⟩, Kp.mut own_el, fk, fun _ h => .inl h, rfl⟩
  show DtAll K _ (A.es ++ [v]) ((s.ents ++ [e]).map entsD)
  rw [List.map_append]
  exact dta_snoc (DtAll.kt fk.kt h.es) (Dt.kt fk.kt hv)
end
def spTrMake (K : PySem.W.Frag) : Sp := fun vs H Q _ => ∃ (A : TrA) (s : TrS) (nm : Str) (j t : Addr) (js : List Entry) (fs : List File) (who : Option Nat), vs = [.ref A.t, .str nm, .ref j, .ref t, whoV who] ∧ TrAt K H A s ∧ Dt K H (.ref j) (jourD js) ∧ TreeG K H t fs ∧
  s.trees.length ≤ 1000 ∧ s.ents.length ≤ 1000 ∧ s.line.length ≤ 1000 ∧ (∀ k ∈ s.line, k < s.sess.length) ∧ 1 ≤ s.trees.length ∧ ∀ H' A', Stp K H A H' A' (s.make nm js fs who) → Q (.int (s.trees.length : Nat)) H'
theorem sc_Trunk__make : FnScope ["self", "name", "journal", "tree", "session", "first"] ["self", "name", "journal", "tree", "session"] (defScope s_Trunk__make) := ⟨rfl, rfl, rfl, by decide +kernel, rfl, by decide +kernel, by decide +kernel⟩
theorem bn_Trunk__make : BindM "_make" "Trunk._make" s_Trunk__make ["self", "name", "journal", "tree", "session"] := fun _ _ _ _ _ _ us hl => match us, hl with | [_, _, _, _, _], _ => rfl
theorem b_Trunk__make (T : TX K mg) : BodyM P w K mg base "Trunk" "_make" "Trunk._make" s_Trunk__make ["self", "name", "journal", "tree", "session", "first"] 4 (spTrMake K) := by
  intro cdv A outer s H vs Q E h X hr
  obtain ⟨A, s, nm, j, t, js, fs, who, rfl, h, hj, hT, tl, el, ll, lk, t1, q⟩ := h
  have C_Line := C_Line T; have C_Trunk := C_Trunk T; have M_Line_first := M_Line_first (P := P) (w := w) (base := base) T; have M_Line_leave := M_Line_leave (P := P) (w := w) (base := base) T; have M_Trunk__count_event := M_Trunk__count_event (P := P) (w := w) (base := base) T; have M_Trunk_version := M_Trunk_version (P := P) (w := w) (base := base) T
  refine ⟨_, (pss_cons (ps_expr (pe_appendU (K := K) (pe_fldU (K := K) (pv 0)) (pv 3))) (pss_cons (ps_expr (pe_appendU (K := K) (pe_fldU (K := K) (pv 0)) (pe_tup (pa_cons (pv 1) (pa_cons (pv 2) pa_nil))))) (pss_cons (ps_set (i := 5) sc_Trunk__make.nd rfl (Or.inl rfl) (pe_methS0 M_Line_first C_Line hr at0 (pe_fldU (K := K) (pv 0)))) (Evl.pss_cut (ps_if (PW.pt (pw_and (pt_cmpR op_isNotU (pv 5) pe_non (nomark _)) (pw_and1 (pt_cmpR (op_neU (K := K) hr.units) (pv 5) (pv 4) (nomark _))))) (pss_one (ps_if (pt_tru (K := K) (pe_fldU (K := K) (pe_fldU (K := K) (pv 0)))) (pss_one (ps_fldU (K := K) (pe_ix (ix_U (K := K)) (pe_fldU (K := K) (pv 0)) (pv 5) (fun _ _ => rfl)) (pe_methS0 M_Trunk_version C_Trunk hr at0 (pv 0)))) (pss_one (ps_expr (pe_methS0 M_Trunk__count_event C_Trunk hr at0 (pv 0)))))) pss_nil) (pss_cons (ps_expr (pe_methS1 M_Line_leave C_Line hr at0 (pe_fldU (K := K) (pv 0)) (pa_cons (pv 4) pa_nil))) (pss_one (ps_ret (pe_methS0 M_Trunk_version C_Trunk hr at0 (pv 0))))))))), ?_⟩
  have ht := h.t
  have htl := h.tl
  have htn := h.tn
  have hel := h.el
  have hen : A.es.length = s.ents.length := by rw [dta_len h.es, List.length_map]
  walk_at "st"
  have e1 := h.tadd hT
  have h1 := e1.at_
  simp only [List.map_append, List.map_cons, List.map_nil] at e1 h1
  generalize (upd H A.tl (.lst (A.ts.map V.ref ++ [.ref t]))) = H1 at e1 h1 ⊢
  have ht1 := h1.t
  have hel1 : H1 A.el = some (.lst A.es) := h1.el
  walk_at "st"
  walk_at "nw"
  intro p2 H2 N2
  have h2 := h1.kp (N2.kp (ms := []))
  have ht2 := h2.t
  have hel2 : H2 A.el = some (.lst A.es) := h2.el
  have hv2 : Dt K H2 (.ref p2) (entsD (nm, js)) := .tup (SqT.of N2.at_) (.cons (.str _) (.cons (Dt.kp (Dt.kt e1.fk.kt hj) N2.kp) .nil))
  walk_at "st"
  have e3 := (e1.trans (Stp.refl h1 (N2.kp (ms := []))) h).trans (h2.eadd hv2) h
  have h3 := e3.at_
  dsimp only at e3 h3
  generalize (upd H2 A.el (.lst (A.es ++ [.ref p2]))) = H3 at e3 h3 ⊢
  have e3 : Stp K H A H3 { A with ts := A.ts ++ [t], es := A.es ++ [.ref p2] } (s.ver nm js fs) := e3
  have h3 : TrAt K H3 { A with ts := A.ts ++ [t], es := A.es ++ [.ref p2] } (s.ver nm js fs) := h3
  generalize hA3 : ({ A with ts := A.ts ++ [t], es := A.es ++ [.ref p2] } : TrA) = A3 at e3 h3
  have ta : A3.t = A.t := by rw [← hA3]
  have la : A3.li = A.li := by rw [← hA3]
  have sa : A3.sl = A.sl := by rw [← hA3]
  rw [← ta]
  have ht3 := h3.t
  have hli3 := h3.li
  walk_at "st"
  refine ⟨A3, s.ver nm js fs, rfl, h3, ?_⟩
  walk_at "st"
  have hline : (s.ver nm js fs).line = s.line := rfl
  have hvt : (s.ver nm js fs).trees.length = s.trees.length + 1 := by show (s.trees ++ [fs]).length = _; rw [List.length_append]; rfl
  refine c_cut (fun σ' H' => σ' = [some (.ref A3.t), some (.str nm), some (.ref j), some (.ref t), some (whoV who), some (firstV (s.ver nm js fs))] ∧ Stp K H3 A3 H' A3 ((s.ver nm js fs).shift who)) ?_ ?_
  · unfold firstV TrS.shift
    rw [hline]
    cases hl : s.line with
    | nil =>
      walk_at "dc"
      exact ⟨rfl, Stp.refl h3 Kp.refl⟩
    | cons k r =>
      have hk : k < s.sess.length := lk k (by rw [hl]; exact List.mem_cons_self ..)
      have hy : (s.ver nm js fs).sess[k]? = some s.sess[k] := List.getElem?_eq_getElem hk
      have hgd : s.sess.getD k d0S = s.sess[k] := getD_of hy
      have go : ∀ {R : Prop}, R → R := fun x => x
      by_cases hw : who = some k
      · subst hw
        walk_at "dc"
        rw [decide_eq_true (rfl : (k : Int) = (k : Nat))]
        walk_at "dc"
        dsimp only
        rw [if_pos rfl]
        exact ⟨rfl, Stp.refl h3 Kp.refl⟩
      · dsimp only
        rw [if_neg hw]
        have wn : ∀ {Q : VK} {H' : Hp}, Q (.bl true) H' → rNeU K (.int (k : Nat)) (whoV who) H' Q := by
          clear q
          intro Q' H' z
          cases who with
          | none => exact c_neIN z
          | some k' =>
            refine c_neI ?_
            rw [decide_eq_false (fun e => hw (by rw [show k = k' by omega]))]
            exact z
        walk_at "dc"
        refine wn ?_
        walk_at "dc"
        cases hp : s.prot with
        | true =>
          have hp2 : (s.ver nm js fs).prot = true := hp
          refine c_iteT hp2 ?_
          rw [hp2] at hli3
          obtain ⟨a, ha, hs⟩ := h3.at hy
          obtain ⟨dx, j2, g1, g2⟩ := hs.ex
          walk_at "dc"
          first | (refine c_ixL (v := .ref a) (SqL.of h3.sl) (atI_nat (j := k) (by rw [List.getElem?_map, ha]; rfl)) ?_; walk_at "st") | skip
          refine ⟨A3, s.ver nm js fs, rfl, h3, ?_⟩
          rw [show (((s.ver nm js fs).trees.length : Nat) : Int) - 1 = (((s.ver nm js fs).trees.length - 1 : Nat) : Int) by omega]
          first | (refine c_ixL (v := .ref a) (SqL.of h3.sl) (atI_nat (j := k) (by rw [List.getElem?_map, ha]; rfl)) ?_; walk_at "st") | walk_at "st"
          first | (refine c_ixL (v := .ref a) (SqL.of h3.sl) (atI_nat (j := k) (by rw [List.getElem?_map, ha]; rfl)) ?_; walk_at "st") | skip
          refine ⟨rfl, ?_⟩
          have hgd3 : (s.ver nm js fs).sess.getD k d0S = s.sess[k] := hgd
          rw [if_pos hp2, hgd3]
          exact h3.sset hy ha (x' := { s.sess[k] with base := (s.ver nm js fs).trees.length - 1 }) (dx := dx) g2
        | false =>
          have hp2 : (s.ver nm js fs).prot = false := hp
          refine c_iteF hp2 ?_
          rw [hp2] at hli3
          walk_at "dc"
          refine ⟨A3, s.ver nm js fs, k, r, _, rfl, h3, hl, ll, hy, fun H4 e4 => ?_⟩
          walk_at "st"
          refine ⟨rfl, ?_⟩
          rw [if_neg (by rw [hp2]; exact Bool.false_ne_true)]
          exact e4
  rintro _ H4 ⟨rfl, e4⟩
  have h4 := e4.at_
  have ht4 := h4.t
  have hli4 := h4.li
  have sl : ((s.ver nm js fs).shift who).line.length ≤ 1000 := by
    refine Nat.le_trans ?_ ll
    rw [show s.line = (s.ver nm js fs).line from rfl]
    unfold TrS.shift
    split
    · exact Nat.le_refl _
    · split
      · exact Nat.le_refl _
      · split
        · exact Nat.le_refl _
        · exact event_line _
  have lt4 : (((s.ver nm js fs).shift who).out who).trees.length = s.trees.length + 1 := by rw [out_trees, shift_trees, hvt]
  have fin : ∀ H5, Stp K H4 A3 H5 A3 (((s.ver nm js fs).shift who).out who) → Q (.int ((((s.ver nm js fs).shift who).out who).trees.length - 1 : Int)) H5 := fun H5 e5 => by
    have := q H5 A3 ((e3.trans e4 h).trans e5 h)
    rw [lt4, show (((s.trees.length + 1 : Nat) : Int) - 1) = (s.trees.length : Nat) by omega]
    exact this
  cases who with
  | none =>
    walk_at "st"
    refine ⟨A3, _, .non, rfl, h4, sl, .inl ⟨rfl, ?_⟩⟩
    walk_at "st"
    refine ⟨A3, _, rfl, h4, ?_⟩
    exact fin H4 (Stp.refl h4 Kp.refl)
  | some k =>
    walk_at "st"
    refine ⟨A3, _, _, rfl, h4, sl, .inr ⟨k, rfl, fun H5 e5 => ?_⟩⟩
    have h5 := e5.at_
    have ht5 := h5.t
    walk_at "st"
    refine ⟨A3, _, rfl, h5, ?_⟩
    exact fin H5 e5
theorem M_Trunk__make (T : TX K mg) : MethAt P w K mg base CX0 "Trunk" "_make" 5 ["self", "name", "journal", "tree", "session"] (spTrMake K) :=
  meth_of T 83 117 sc_Trunk__make bn_Trunk__make (by walk_at "len") (b_Trunk__make T)
end
end K36



namespace K36
open PySem L2 Sa
local macro_rules | `(tactic| walk_at "s1") => `(tactic| first | (with_reducible apply c_dgetK))
local macro_rules | `(tactic| walk_at "s1") => `(tactic| (with_reducible apply c_raiseO))
local macro_rules | `(tactic| walk_at "s1") => `(tactic| first | (with_reducible apply c_un) | (with_reducible apply c_negI))
local macro_rules | `(tactic| walk_at "s1") => `(tactic| first | ((with_reducible apply se_g1 (by assumption)); (· walk_at "lk")) | ((with_reducible apply se_p1 (by assumption)); (· walk_at "lk")) | ((with_reducible apply se_g2 (by assumption)); (· walk_at "lk")) | ((with_reducible apply se_p2 (by assumption)); (· walk_at "lk")) | ((with_reducible apply se_g3 (by assumption)); (· walk_at "lk")) | ((with_reducible apply se_p3 (by assumption)); (· walk_at "lk")) | ((with_reducible apply se_g4 (by assumption)); (· walk_at "lk")) | ((with_reducible apply se_p4 (by assumption)); (· walk_at "lk")) | ((with_reducible apply se_g5 (by assumption)); (· walk_at "lk")) | ((with_reducible apply se_p5 (by assumption)); (· walk_at "lk")) | ((with_reducible apply se_r); (· walk_at "lk"); (· decide +kernel)))
local macro_rules | `(tactic| walk_at "s1") => `(tactic| first | ((with_reducible apply li_g1 (by assumption)); (· walk_at "lk")) | ((with_reducible apply li_p1 (by assumption)); (· walk_at "lk")) | ((with_reducible apply li_g2 (by assumption)); (· walk_at "lk")) | ((with_reducible apply li_p2 (by assumption)); (· walk_at "lk")) | ((with_reducible apply li_g3 (by assumption)); (· walk_at "lk")) | ((with_reducible apply li_p3 (by assumption)); (· walk_at "lk")) | ((with_reducible apply li_r); (· walk_at "lk"); (· decide +kernel)))
local macro_rules | `(tactic| walk_at "s1") => `(tactic| first | ((with_reducible apply tr_g1 (by assumption)); (· walk_at "lk")) | ((with_reducible apply tr_p1 (by assumption)); (· walk_at "lk")) | ((with_reducible apply tr_g2 (by assumption)); (· walk_at "lk")) | ((with_reducible apply tr_p2 (by assumption)); (· walk_at "lk")) | ((with_reducible apply tr_g3 (by assumption)); (· walk_at "lk")) | ((with_reducible apply tr_p3 (by assumption)); (· walk_at "lk")) | ((with_reducible apply tr_g4 (by assumption)); (· walk_at "lk")) | ((with_reducible apply tr_p4 (by assumption)); (· walk_at "lk")) | ((with_reducible apply tr_g5 (by assumption)); (· walk_at "lk")) | ((with_reducible apply tr_p5 (by assumption)); (· walk_at "lk")) | ((with_reducible apply tr_g6 (by assumption)); (· walk_at "lk")) | ((with_reducible apply tr_p6 (by assumption)); (· walk_at "lk")) | ((with_reducible apply tr_g7 (by assumption)); (· walk_at "lk")) | ((with_reducible apply tr_p7 (by assumption)); (· walk_at "lk")) | ((with_reducible apply tr_g8 (by assumption)); (· walk_at "lk")) | ((with_reducible apply tr_p8 (by assumption)); (· walk_at "lk")) | ((with_reducible apply tr_g9 (by assumption)); (· walk_at "lk")) | ((with_reducible apply tr_p9 (by assumption)); (· walk_at "lk")) | ((with_reducible apply tr_r); (· walk_at "lk"); (· decide +kernel)))
set_option pp.maxSteps 1500
section
variable {K : PySem.W.Frag} {H0 H : Hp} {B : WoA} {s : TrS}
theorem WoAt.nin (h : WoAt K H0 B s) {a : Addr} (f : H0 a = none) : a ∉ own2 B := fun z => by
  obtain ⟨xs, g⟩ := h.fat a z
  rw [f] at g
  cases g
theorem WoAt.w3 (h0 : WoAt K H0 B s) (k : Kp [] H0 H) {l : Addr} {L : List Nat} (hl : H l = some (.lst ((L.map fun n => ((n : Nat) : Int)).map V.int))) (fl : H0 l = none) :
    Stw K H0 B (upd H B.w (.lst [.ref B.l0, .ref B.l1, .ref B.l2, .ref l, .ref B.l4, .ref B.l5, .ref B.d6, .ref B.d7, .ref B.l8])) { B with l3 := l } { s with line := L } := by
  have h := h0.kp k
  have nd := h.ndb
  obtain ⟨n0, n1, n2, n3, n4, n5, n7⟩ := nd.ww
  have fk : Fk H (upd H B.w (.lst [.ref B.l0, .ref B.l1, .ref B.l2, .ref l, .ref B.l4, .ref B.l5, .ref B.d6, .ref B.d7, .ref B.l8])) := Fk.mut h.w trivial
  have nlw : l ≠ B.w := fun e => h0.nin fl (e ▸ own2_w)
  refine ⟨⟨upd_same, upd_other n0.symm h.l0, h.fn, fun i b gs h1 h2 => (h.tb i b gs h1 h2).fk fk, upd_other n1.symm h.l1, DtAll.kt fk.kt h.es, upd_other n2.symm h.l2, h.rn,
    fun i b x h1 h2 => (h.rw_ i b x h1 h2).fr (by rw [upd_ne (nd.rs b (List.mem_of_getElem? h1)).1]) fk, upd_other nlw hl, upd_other n4.symm h.l4, upd_other n5.symm h.l5, fk _ _ h.d6 (fun z => z), fk _ _ h.d7 (fun z => z), upd_other n7.symm h.l8, ?_⟩, k.mono.trans (Kp.mut own2_w), (kp_fk k).trans fk, fun a ha => ?_, rfl⟩
  · have nd0 := h.nd
    have f2 := h0.nin fl
    simp only [own2, List.cons_append, List.nil_append, List.nodup_cons, List.mem_cons, not_or] at nd0 f2 ⊢
    grind
  · simp only [own2, List.cons_append, List.nil_append, List.mem_cons] at ha ⊢
    grind
theorem WoAt.w4 (h0 : WoAt K H0 B s) (k : Kp [] H0 H) {l : Addr} {p : Bool} {n : Nat} (hl : H l = some (.lst [.bl p, .int (n : Nat)])) (fl : H0 l = none) :
    Stw K H0 B (upd H B.w (.lst [.ref B.l0, .ref B.l1, .ref B.l2, .ref B.l3, .ref l, .ref B.l5, .ref B.d6, .ref B.d7, .ref B.l8])) { B with l4 := l } { s with prot := p, events := n } := by
  have h := h0.kp k
  have nd := h.ndb
  obtain ⟨n0, n1, n2, n3, n4, n5, n7⟩ := nd.ww
  have fk : Fk H (upd H B.w (.lst [.ref B.l0, .ref B.l1, .ref B.l2, .ref B.l3, .ref l, .ref B.l5, .ref B.d6, .ref B.d7, .ref B.l8])) := Fk.mut h.w trivial
  have nlw : l ≠ B.w := fun e => h0.nin fl (e ▸ own2_w)
  refine ⟨⟨upd_same, upd_other n0.symm h.l0, h.fn, fun i b gs h1 h2 => (h.tb i b gs h1 h2).fk fk, upd_other n1.symm h.l1, DtAll.kt fk.kt h.es, upd_other n2.symm h.l2, h.rn,
    fun i b x h1 h2 => (h.rw_ i b x h1 h2).fr (by rw [upd_ne (nd.rs b (List.mem_of_getElem? h1)).1]) fk, upd_other n3.symm h.l3, upd_other nlw hl, upd_other n5.symm h.l5, fk _ _ h.d6 (fun z => z), fk _ _ h.d7 (fun z => z), upd_other n7.symm h.l8, ?_⟩, k.mono.trans (Kp.mut own2_w), (kp_fk k).trans fk, fun a ha => ?_, rfl⟩
  · have nd0 := h.nd
    have f2 := h0.nin fl
    simp only [own2, List.cons_append, List.nil_append, List.nodup_cons, List.mem_cons, not_or] at nd0 f2 ⊢
    grind
  · simp only [own2, List.cons_append, List.nil_append, List.mem_cons] at ha ⊢
    grind
theorem WoAt.w0 (h0 : WoAt K H0 B s) (k : Kp [] H0 H) {l f : Addr} {gs : List File} (hl : H l = some (.lst ((B.fs ++ [f]).map V.ref))) (hf : TabAt K H f gs) (fl : H0 l = none) :
    Stw K H0 B (upd H B.w (.lst [.ref l, .ref B.l1, .ref B.l2, .ref B.l3, .ref B.l4, .ref B.l5, .ref B.d6, .ref B.d7, .ref B.l8])) { B with l0 := l, fs := B.fs ++ [f] } { s with trees := s.trees ++ [gs] } := by
  have h := h0.kp k
  have nd := h.ndb
  obtain ⟨n0, n1, n2, n3, n4, n5, n7⟩ := nd.ww
  have fk : Fk H (upd H B.w (.lst [.ref l, .ref B.l1, .ref B.l2, .ref B.l3, .ref B.l4, .ref B.l5, .ref B.d6, .ref B.d7, .ref B.l8])) := Fk.mut h.w trivial
  have nlw : l ≠ B.w := fun e => h0.nin fl (e ▸ own2_w)
  refine ⟨⟨upd_same, upd_other nlw hl, ?_, fun i b fs h1 h2 => ?_, upd_other n1.symm h.l1, DtAll.kt fk.kt h.es, upd_other n2.symm h.l2, h.rn,
    fun i b x h1 h2 => (h.rw_ i b x h1 h2).fr (by rw [upd_ne (nd.rs b (List.mem_of_getElem? h1)).1]) fk, upd_other n3.symm h.l3, upd_other n4.symm h.l4, upd_other n5.symm h.l5, fk _ _ h.d6 (fun z => z), fk _ _ h.d7 (fun z => z), upd_other n7.symm h.l8, ?_⟩, k.mono.trans (Kp.mut own2_w), (kp_fk k).trans fk, fun a ha => ?_, rfl⟩
  · show (B.fs ++ [f]).length = (s.trees ++ [gs]).length
    rw [List.length_append, List.length_append, h.fn]; rfl
  · have h1 : (B.fs ++ [f])[i]? = some b := h1
    have h2 : (s.trees ++ [gs])[i]? = some fs := h2
    by_cases hi : i < B.fs.length
    · rw [List.getElem?_append_left hi] at h1
      rw [List.getElem?_append_left (by rw [← h.fn]; exact hi)] at h2
      exact (h.tb i b fs h1 h2).fk fk
    · rw [List.getElem?_append_right (by omega)] at h1
      rw [List.getElem?_append_right (by rw [← h.fn]; omega), ← h.fn] at h2
      cases hz : i - B.fs.length with
      | zero =>
        rw [hz] at h1 h2
        obtain rfl := Option.some.inj h1
        obtain rfl := Option.some.inj h2
        exact hf.fk fk
      | succ n => rw [hz] at h1; cases h1
  · have nd0 := h.nd
    have f2 := h0.nin fl
    simp only [own2, List.cons_append, List.nil_append, List.nodup_cons, List.mem_cons, not_or] at nd0 f2 ⊢
    grind
  · simp only [own2, List.cons_append, List.nil_append, List.mem_cons] at ha ⊢
    grind
theorem WoAt.w1 (h0 : WoAt K H0 B s) (k : Kp [] H0 H) {l : Addr} {v : V} {e : Str × List Entry} (hl : H l = some (.lst (B.es ++ [v]))) (hv : Dt K H v (entsD e)) (fl : H0 l = none) :
    Stw K H0 B (upd H B.w (.lst [.ref B.l0, .ref l, .ref B.l2, .ref B.l3, .ref B.l4, .ref B.l5, .ref B.d6, .ref B.d7, .ref B.l8])) { B with l1 := l, es := B.es ++ [v] } { s with ents := s.ents ++ [e] } := by
  have h := h0.kp k
  have nd := h.ndb
  obtain ⟨n0, n1, n2, n3, n4, n5, n7⟩ := nd.ww
  have fk : Fk H (upd H B.w (.lst [.ref B.l0, .ref l, .ref B.l2, .ref B.l3, .ref B.l4, .ref B.l5, .ref B.d6, .ref B.d7, .ref B.l8])) := Fk.mut h.w trivial
  have nlw : l ≠ B.w := fun e => h0.nin fl (e ▸ own2_w)
  refine ⟨⟨upd_same, upd_other n0.symm h.l0, h.fn, fun i b gs h1 h2 => (h.tb i b gs h1 h2).fk fk, upd_other nlw hl, ?_, upd_other n2.symm h.l2, h.rn,
    fun i b x h1 h2 => (h.rw_ i b x h1 h2).fr (by rw [upd_ne (nd.rs b (List.mem_of_getElem? h1)).1]) fk, upd_other n3.symm h.l3, upd_other n4.symm h.l4, upd_other n5.symm h.l5, fk _ _ h.d6 (fun z => z), fk _ _ h.d7 (fun z => z), upd_other n7.symm h.l8, ?_⟩, k.mono.trans (Kp.mut own2_w), (kp_fk k).trans fk, fun a ha => ?_, rfl⟩
  · show DtAll K _ (B.es ++ [v]) ((s.ents ++ [e]).map entsD)
    rw [List.map_append]
    exact dta_snoc (DtAll.kt fk.kt h.es) (Dt.kt fk.kt hv)
  · have nd0 := h.nd
    have f2 := h0.nin fl
    simp only [own2, List.cons_append, List.nil_append, List.nodup_cons, List.mem_cons, not_or] at nd0 f2 ⊢
    grind
  · simp only [own2, List.cons_append, List.nil_append, List.mem_cons] at ha ⊢
    grind
end
end K36



namespace K36
open PySem L2 Sa
local macro_rules | `(tactic| walk_at "s1") => `(tactic| first | (with_reducible apply c_dgetK))
local macro_rules | `(tactic| walk_at "s1") => `(tactic| (with_reducible apply c_raiseO))
local macro_rules | `(tactic| walk_at "s1") => `(tactic| first | (with_reducible apply c_un) | (with_reducible apply c_negI))
local macro_rules | `(tactic| walk_at "s1") => `(tactic| first | ((with_reducible apply se_g1 (by assumption)); (· walk_at "lk")) | ((with_reducible apply se_p1 (by assumption)); (· walk_at "lk")) | ((with_reducible apply se_g2 (by assumption)); (· walk_at "lk")) | ((with_reducible apply se_p2 (by assumption)); (· walk_at "lk")) | ((with_reducible apply se_g3 (by assumption)); (· walk_at "lk")) | ((with_reducible apply se_p3 (by assumption)); (· walk_at "lk")) | ((with_reducible apply se_g4 (by assumption)); (· walk_at "lk")) | ((with_reducible apply se_p4 (by assumption)); (· walk_at "lk")) | ((with_reducible apply se_g5 (by assumption)); (· walk_at "lk")) | ((with_reducible apply se_p5 (by assumption)); (· walk_at "lk")) | ((with_reducible apply se_r); (· walk_at "lk"); (· decide +kernel)))
local macro_rules | `(tactic| walk_at "s1") => `(tactic| first | ((with_reducible apply li_g1 (by assumption)); (· walk_at "lk")) | ((with_reducible apply li_p1 (by assumption)); (· walk_at "lk")) | ((with_reducible apply li_g2 (by assumption)); (· walk_at "lk")) | ((with_reducible apply li_p2 (by assumption)); (· walk_at "lk")) | ((with_reducible apply li_g3 (by assumption)); (· walk_at "lk")) | ((with_reducible apply li_p3 (by assumption)); (· walk_at "lk")) | ((with_reducible apply li_r); (· walk_at "lk"); (· decide +kernel)))
local macro_rules | `(tactic| walk_at "s1") => `(tactic| first | ((with_reducible apply tr_g1 (by assumption)); (· walk_at "lk")) | ((with_reducible apply tr_p1 (by assumption)); (· walk_at "lk")) | ((with_reducible apply tr_g2 (by assumption)); (· walk_at "lk")) | ((with_reducible apply tr_p2 (by assumption)); (· walk_at "lk")) | ((with_reducible apply tr_g3 (by assumption)); (· walk_at "lk")) | ((with_reducible apply tr_p3 (by assumption)); (· walk_at "lk")) | ((with_reducible apply tr_g4 (by assumption)); (· walk_at "lk")) | ((with_reducible apply tr_p4 (by assumption)); (· walk_at "lk")) | ((with_reducible apply tr_g5 (by assumption)); (· walk_at "lk")) | ((with_reducible apply tr_p5 (by assumption)); (· walk_at "lk")) | ((with_reducible apply tr_g6 (by assumption)); (· walk_at "lk")) | ((with_reducible apply tr_p6 (by assumption)); (· walk_at "lk")) | ((with_reducible apply tr_g7 (by assumption)); (· walk_at "lk")) | ((with_reducible apply tr_p7 (by assumption)); (· walk_at "lk")) | ((with_reducible apply tr_g8 (by assumption)); (· walk_at "lk")) | ((with_reducible apply tr_p8 (by assumption)); (· walk_at "lk")) | ((with_reducible apply tr_g9 (by assumption)); (· walk_at "lk")) | ((with_reducible apply tr_p9 (by assumption)); (· walk_at "lk")) | ((with_reducible apply tr_r); (· walk_at "lk"); (· decide +kernel)))
set_option pp.maxSteps 1500
theorem tn0 : Int.toNat 0 = 0 := rfl
theorem tn1 : Int.toNat 1 = 1 := rfl
theorem tn2 : Int.toNat 2 = 2 := rfl
theorem tn3 : Int.toNat 3 = 3 := rfl
theorem tn4 : Int.toNat 4 = 4 := rfl
theorem tn8 : Int.toNat 8 = 8 := rfl
theorem range_getD {α : Type} (xs : List α) (d : α) : xs = (List.range xs.length).map fun i => xs.getD i d := by
  apply List.ext_getElem?
  intro n
  rw [List.getElem?_map]
  by_cases hn : n < xs.length
  · rw [List.getElem?_range hn, List.getElem?_eq_getElem hn]
    simp [List.getD_eq_getElem?_getD, List.getElem?_eq_getElem hn]
  · rw [List.getElem?_eq_none (by omega), List.getElem?_eq_none (by rw [List.length_range]; omega)]
    rfl
theorem fil_eq {α β : Type} (xs : List α) (d : α) (p : α → Bool) (u : α → β) : ((List.range xs.length).filter fun i => p (xs.getD i d)).map (fun i => u (xs.getD i d)) = (xs.filter p).map u := by
  conv => rhs; rw [range_getD xs d]
  rw [List.filter_map, List.map_map]
  rfl
theorem erase_fil {l : List Nat} (k : Nat) (h : l.Nodup) : l.filter (fun n => decide (((n : Nat) : Int) ≠ (k : Int))) = l.erase k := by
  rw [h.erase_eq_filter]
  congr 1
  funext n
  by_cases e : n = k
  · subst e; simp
  · have : ((n : Nat) : Int) ≠ (k : Int) := by omega
    simp [this, e]
section
variable {P : Program} {w : World} {K : PySem.W.Frag} {mg : Str → Option Value} {base : Heap}
theorem inV_nonF : ∀ ns : List Int, inV .non (ns.map V.int) = false := inV_nonI
theorem c_inN {H : Hp} {Q : VK} {a : Addr} {ns : List Int} (h : SqL K H a (ns.map V.int)) (q : Q (.bl false) H) : rInU K .non (.ref a) H Q := .inr (.inr ⟨a, _, rfl, .inl h, rfl, flat_ints ns, by rw [inV_nonI]; exact q⟩)
theorem Stw.trans {H H1 H2 : Hp} {B B1 B2 : WoA} {s1 s2 : TrS} (e : Stw K H B H1 B1 s1) (f : Stw K H1 B1 H2 B2 s2) : Stw K H B H2 B2 s2 := by
  refine ⟨f.at_, fun a o n h => f.kp a o (fun z => ?_) (e.kp a o n h), e.fk.trans f.fk, fun a ha => ?_, f.ww.trans e.ww⟩
  · rcases e.ow a z with z | z
    · exact n z
    · rw [h] at z; cases z
  · rcases f.ow a ha with h | h
    · exact e.ow a h
    · by_cases z : a ∈ own2 B
      · exact .inl z
      · refine .inr ?_
        by_cases q : ∃ o, H a = some o
        · obtain ⟨o, q⟩ := q
          rw [e.kp a o z q] at h
          cases h
        · cases g : H a with
          | none => rfl
          | some o => exact absurd ⟨o, g⟩ q
def spWoLeave (K : PySem.W.Frag) : Sp := fun vs H Q _ => ∃ (B : WoA) (s : TrS) (who : Option Nat), vs = [.ref B.w, whoV who] ∧ WoAt K H B s ∧ s.line.Nodup ∧ s.line.length ≤ 1000 ∧ ∀ H' B', Stw K H B H' B' (s.out who) → Q .non H'
theorem sc__law_leave : FnScope ["_law_world", "_law_session", "_law_other"] ["_law_world", "_law_session"] (defScope s__law_leave) := ⟨rfl, rfl, rfl, by decide +kernel, rfl, by decide +kernel, by decide +kernel⟩
theorem bn__law_leave : BindN "_law_leave" s__law_leave ["_law_world", "_law_session"] := fun _ _ _ _ _ _ us hl => match us, hl with | [_, _], _ => rfl
theorem b__law_leave (T : TX K mg) : Body P w K mg base "_law_leave" s__law_leave ["_law_world", "_law_session", "_law_other"] 1 (spWoLeave K) := by
  intro cdv A outer s H vs Q E h X hr
  obtain ⟨B, s, who, rfl, h, nd, hn, q⟩ := h
  refine ⟨_, (pss_one (ps_if (pt_cmpR (op_inU (K := K)) (pv 1) (pe_ix (ix_U (K := K)) (pv 0) pe_int (fun _ _ => rfl)) rfl) (Evl.pss_cut (ps_if (pt_cmpR (op_eqU (K := K) hr.units) (pe_ix (ix_U (K := K)) (pe_ix (ix_U (K := K)) (pv 0) pe_int (fun _ _ => rfl)) pe_int (fun _ _ => rfl)) (pv 1) (nomark _)) (pss_one (ps_asg (pe_lst (pa_cons pe_bl (pa_cons pe_int pa_nil))) (pg_sub (pv 0) pe_int set_list))) pss_nil) (pss_one (ps_asg (pe_lc (own := [("_law_other", 2)]) rfl sc__law_leave.nd (pi_listU (K := K) (pe_ix (ix_U (K := K)) (pv 0) pe_int (fun _ _ => rfl))) (blkOk_by (N := ["_law_world", "_law_session", "_law_other"]) (sc := defScope s__law_leave) (by decide +kernel)) (fun _ _ _ _ _ => (pg_name (i := 2) sc__law_leave.nd rfl (Or.inl rfl))) (fun _ _ _ _ _ => (pts_one (pt_cmpR (op_neU (K := K) hr.units) (pv 2) (pv 1) (nomark _)))) (fun _ _ _ _ _ => (pv 2))) (pg_sub (pv 0) pe_int set_list)))) pss_nil)), ?_⟩
  have hw : SqL K H B.w _ := SqL.of h.w
  have hl3 : SqL K H B.l3 ((s.line.map fun n => ((n : Nat) : Int)).map V.int) := SqL.of h.l3
  cases who with
  | none =>
    walk_at "st"
    first | (refine c_ixL (v := .ref B.l3) hw rfl ?_; walk_at "st") | skip
    refine c_inN hl3 ?_
    walk_at "dc"
    exact q H B (Stw.refl h Kp.refl)
  | some k =>
    walk_at "st"
    first | (refine c_ixL (v := .ref B.l3) hw rfl ?_; walk_at "st") | skip
    refine c_inI hl3 ?_
    rw [decide_eq_decide.mpr (mem_cast k s.line)]
    walk_at "st"
    refine c_ite (fun g => ?_) (fun g => ?_)
    · obtain ⟨k0, r, hl⟩ : ∃ k0 r, s.line = k0 :: r := by
        cases hl : s.line with
        | nil => rw [hl] at g; cases g
        | cons k0 r => exact ⟨k0, r, rfl⟩
      have hll : SqL K H B.l3 (((k0 :: r).map fun n => ((n : Nat) : Int)).map V.int) := by rw [← hl]; exact hl3
      have hd : decide (s.line.head? = some k) = decide ((k0 : Int) = (k : Int)) := by
        rw [hl, List.head?_cons, Bool.eq_iff_iff, decide_eq_true_eq, decide_eq_true_eq, Option.some_inj]
        omega
      refine c_cut (fun σ' H' => ∃ B', B'.w = B.w ∧ σ' = [some (.ref B.w), some (.int (k : Nat)), none] ∧ Stw K H B H' B' { s with prot := if s.line.head? = some k then false else s.prot, events := if s.line.head? = some k then 0 else s.events }) ?_ ?_
      · walk_at "st"
        first | (refine c_ixL (v := .ref B.l3) hw rfl ?_; walk_at "st") | skip
        first | (refine c_ixL (v := .int (k0 : Nat)) hll (by simp [atI, ixN]) ?_; walk_at "st") | skip
        refine c_ite (fun g2 => ?_) (fun g2 => ?_)
        · have g3 : s.line.head? = some k := of_decide_eq_true (by rw [hd]; exact decide_eq_true g2)
          walk_at "st"
          walk_at "nw"
          intro p1 H1 N1
          have hw1 := N1.keep h.w
          walk_at "st"
          refine ⟨{ B with l4 := p1 }, rfl, rfl, ?_⟩
          rw [if_pos g3, if_pos g3]
          exact h.w4 (p := false) (n := 0) N1.kp N1.at_ N1.fr
        · have g3 : ¬ s.line.head? = some k := of_decide_eq_false (by rw [hd]; exact decide_eq_false g2)
          walk_at "st"
          refine ⟨B, rfl, rfl, ?_⟩
          rw [if_neg g3, if_neg g3]
          exact Stw.refl h Kp.refl
      rintro _ H1 ⟨B1, ew, rfl, e1⟩
      have h1 := e1.at_
      have hl1 : SqL K H1 B1.l3 ((s.line.map fun n => ((n : Nat) : Int)).map V.int) := SqL.of h1.l3
      rw [← ew]
      have hw1 : SqL K H1 B1.w _ := SqL.of h1.w
      walk_at "st"
      first | (refine c_ixL (v := .ref B1.l3) hw1 rfl ?_; walk_at "st") | skip
      first | refine ⟨B1.l3, rfl, ⟨_, hl1⟩, ?_⟩ | skip
      refine lcQ_fil (itn_l (ys := s.line.map fun n => ((n : Nat) : Int)) (u := V.int)) (fun i => V.int ((s.line.getD i 0 : Nat) : Int)) (fun i => decide (((s.line.getD i 0 : Nat) : Int) ≠ (k : Int))) (by rw [List.length_map]; omega) (fun H' e => SqL.kp e hl1) (fun i y H' H'' R S hi e z k1 k2 => ?_) (fun D H2 hD e2 hacc => ?_)
      · obtain ⟨rfl, b, hb, rfl⟩ := z
        rw [List.getElem?_map] at hb
        obtain ⟨n, hn', rfl⟩ := Option.map_eq_some_iff.mp hb
        have ed : s.line.getD i 0 = n := getD_of hn'
        rw [ed] at k1 k2
        walk_at "st"
        refine ⟨rfl, ?_⟩
        walk_at "st"
        refine c_iteN (fun g => ?_) (fun g => ?_)
        · walk_at "st"
          exact k1 (decide_eq_true g) _ Kp.refl
        · exact k2 (decide_eq_false (fun z => z g)) _ Kp.refl
      rw [List.length_map, fil_eq s.line 0 (fun n => decide (((n : Nat) : Int) ≠ (k : Int))) (fun n => V.int ((n : Nat) : Int)), erase_fil k nd] at hacc
      have hw2 := e2.at0 h1.w
      walk_at "st"
      have e3 := e1.trans (h1.w3 (L := s.line.erase k) e2 (by rw [List.map_map]; exact hacc) hD)
      refine q _ { B1 with l3 := D } ?_
      unfold TrS.out TrS.leave
      dsimp only
      rw [if_pos g]
      exact e3
    · walk_at "st"
      refine q H B ?_
      unfold TrS.out TrS.leave
      dsimp only
      rw [if_neg g]
      exact Stw.refl h Kp.refl
theorem D__law_leave (T : TX K mg) : DefAt P w K mg base CX0 "_law_leave" 2 ["_law_world", "_law_session"] (spWoLeave K) :=
  def_of T 49 74 sc__law_leave bn__law_leave (by walk_at "len") (b__law_leave T)
def spWoEvent (K : PySem.W.Frag) : Sp := fun vs H Q _ => ∃ (B : WoA) (s : TrS) (k : Nat) (r : List Nat) (y : Sess), vs = [.ref B.w] ∧ WoAt K H B s ∧ s.line = k :: r ∧ s.line.Nodup ∧ s.line.length ≤ 1000 ∧ s.events < s.all ∧ s.sess[k]? = some y ∧ ∀ H' B', Stw K H B H' B' s.event → Q .non H'
theorem sc__law_event : FnScope ["_law_world", "_law_first"] ["_law_world"] (defScope s__law_event) := ⟨rfl, rfl, rfl, by decide +kernel, rfl, by decide +kernel, by decide +kernel⟩
theorem bn__law_event : BindN "_law_event" s__law_event ["_law_world"] := fun _ _ _ _ _ _ us hl => match us, hl with | [_], _ => rfl
theorem b__law_event (T : TX K mg) : Body P w K mg base "_law_event" s__law_event ["_law_world", "_law_first"] 2 (spWoEvent K) := by
  intro cdv A outer s H vs Q E h X hr
  obtain ⟨B, s, k, r, y, rfl, h, hl, nd, hn, ev, hy, q⟩ := h
  have D__law_leave := D__law_leave (P := P) (w := w) (base := base) T
  refine ⟨_, (pss_cons (ps_asg (pe_lst (pa_cons (pe_ix (ix_U (K := K)) (pe_ix (ix_U (K := K)) (pv 0) pe_int (fun _ _ => rfl)) pe_int (fun _ _ => rfl)) (pa_cons (pe_op (op_addU (K := K)) (pe_ix (ix_U (K := K)) (pe_ix (ix_U (K := K)) (pv 0) pe_int (fun _ _ => rfl)) pe_int (fun _ _ => rfl)) pe_int) pa_nil))) (pg_sub (pv 0) pe_int set_list)) (pss_one (ps_if (pt_cmpR (op_eqU (K := K) hr.units) (pe_ix (ix_U (K := K)) (pe_ix (ix_U (K := K)) (pv 0) pe_int (fun _ _ => rfl)) pe_int (fun _ _ => rfl)) (pe_ix (ix_U (K := K)) (pe_ix (ix_U (K := K)) (pv 0) pe_int (fun _ _ => rfl)) pe_int (fun _ _ => rfl)) (nomark _)) (pss_cons (ps_set (i := 1) sc__law_event.nd rfl (Or.inl rfl) (pe_ix (ix_U (K := K)) (pe_ix (ix_U (K := K)) (pv 0) pe_int (fun _ _ => rfl)) pe_int (fun _ _ => rfl))) (pss_cons (ps_expr (pe_callA D__law_leave hr pass0 (pa_cons (pv 0) (pa_cons (pv 1) pa_nil)))) (pss_one (ps_asg pe_int (pg_sub (pe_ix (ix_U (K := K)) (pe_ix (ix_U (K := K)) (pv 0) pe_int (fun _ _ => rfl)) (pv 1) (fun _ _ => rfl)) pe_int set_list))))) pss_nil))), ?_⟩
  have hgd : s.sess.getD k d0S = y := getD_of hy
  have hw : SqL K H B.w _ := SqL.of h.w
  have h4 : SqL K H B.l4 _ := SqL.of h.l4
  walk_at "st"
  first | (refine c_ixL (v := .ref B.l4) hw rfl ?_; walk_at "st") | skip
  walk_at "nw"
  intro p1 H1 N1
  have hw1 := N1.keep h.w
  walk_at "st"
  have e2 := h.w4 (p := s.prot) (n := s.events + 1) N1.kp (by rw [N1.at_]; rfl) N1.fr
  generalize hB : ({ B with l4 := p1 } : WoA) = B2 at e2
  have h2 := e2.at_
  have ew := e2.ww
  simp only [tn0, tn1, tn2, tn3, tn4, tn8, List.set_cons_succ, List.set_cons_zero]
  generalize (upd H1 B.w (.lst [.ref B.l0, .ref B.l1, .ref B.l2, .ref B.l3, .ref p1, .ref B.l5, .ref B.d6, .ref B.d7, .ref B.l8])) = H2 at e2 h2 ⊢
  have hw2 : SqL K H2 B2.w _ := SqL.of h2.w
  have e14 : B2.l4 = p1 := by rw [← hB]
  have h24 : SqL K H2 p1 [.bl s.prot, .int ((s.events + 1 : Nat) : Int)] := by rw [← e14]; exact SqL.of h2.l4
  have h25 : SqL K H2 B2.l5 [.int (s.pat : Nat), .int (s.all : Nat)] := SqL.of h2.l5
  have h23 : SqL K H2 B2.l3 (((k :: r).map fun n => ((n : Nat) : Int)).map V.int) := by rw [← hl]; exact SqL.of h2.l3
  rw [← ew]
  walk_at "st"
  first | (refine c_ixL (v := .ref p1) (by rw [← e14]; exact hw2) rfl ?_; walk_at "st") | skip
  first | (refine c_ixL (v := .int ((s.events + 1 : Nat) : Int)) h24 rfl ?_; walk_at "st") | skip
  first | (refine c_ixL (v := .ref B2.l5) hw2 rfl ?_; walk_at "st") | skip
  first | (refine c_ixL (v := .int (s.all : Nat)) h25 rfl ?_; walk_at "st") | skip
  refine c_ite (fun g => ?_) (fun g => ?_)
  · walk_at "st"
    first | (refine c_ixL (v := .ref B2.l3) hw2 rfl ?_; walk_at "st") | skip
    first | (refine c_ixL (v := .int (k : Nat)) h23 (by simp [atI, ixN]) ?_; walk_at "st") | skip
    refine ⟨B2, s.tick, some k, rfl, h2, nd, hn, fun H3 B3 e3 => ?_⟩
    have h3 := e3.at_
    have ew3 := e3.ww
    obtain ⟨ls, lt, le, la, lp⟩ := leave_sess s.tick k
    have hy1 : (s.tick.leave k).sess[k]? = some y := by rw [ls]; exact hy
    obtain ⟨a, ha, hr⟩ := h3.at hy1
    obtain ⟨j, g1, g2⟩ := hr.ex
    rw [← ew3]
    have hw3 : SqL K H3 B3.w _ := SqL.of h3.w
    walk_at "st"
    first | (refine c_ixL (v := .ref B3.l2) hw3 rfl ?_; walk_at "st") | skip
    first | (refine c_ixL (v := .ref a) (SqL.of h3.l2) (atI_nat (j := k) (by rw [List.getElem?_map, ha]; rfl)) ?_; walk_at "st") | skip
    have e4 := h3.rowset hy1 ha (x' := { y with refs := 0 }) g2
    have e5 := (e2.trans e3).trans e4
    refine q _ B3 (by
      unfold TrS.event
      rw [if_neg (by omega), hl]
      dsimp only
      rw [hgd]
      exact e5)
  · walk_at "st"
    refine q _ B2 (by
      unfold TrS.event
      rw [if_pos (by omega)]
      exact e2)
theorem D__law_event (T : TX K mg) : DefAt P w K mg base CX0 "_law_event" 3 ["_law_world"] (spWoEvent K) :=
  def_of T 50 75 sc__law_event bn__law_event (by walk_at "len") (b__law_event T)
theorem event_nd {s : TrS} (h : s.line.Nodup) : s.event.line.Nodup := by
  unfold TrS.event
  split
  · exact h
  · split
    · exact h
    · show (s.tick.leave _).line.Nodup
      unfold TrS.leave
      split
      · exact h.erase _
      · exact h
def spWoMade (K : PySem.W.Frag) : Sp := fun vs H Q _ => ∃ (B : WoA) (s : TrS) (nm : Str) (j f : Addr) (js : List Entry) (gs : List File) (who : Option Nat), vs = [.ref B.w, .str nm, .ref j, .ref f, whoV who] ∧ WoAt K H B s ∧ Dt K H (.ref j) (jourD js) ∧ TabAt K H f gs ∧
  s.trees.length ≤ 1000 ∧ s.ents.length ≤ 1000 ∧ s.line.length ≤ 1000 ∧ (∀ k ∈ s.line, k < s.sess.length) ∧ s.line.Nodup ∧ s.events < s.all ∧ ∀ H' B', Stw K H B H' B' (s.make nm js gs who) → Q (.int (s.trees.length : Nat)) H'
theorem sc__law_made : FnScope ["_law_world", "_law_name", "_law_journal", "_law_table_here", "_law_session"] ["_law_world", "_law_name", "_law_journal", "_law_table_here", "_law_session"] (defScope s__law_made) := ⟨rfl, rfl, rfl, by decide +kernel, rfl, by decide +kernel, by decide +kernel⟩
theorem bn__law_made : BindN "_law_made" s__law_made ["_law_world", "_law_name", "_law_journal", "_law_table_here", "_law_session"] := fun _ _ _ _ _ _ us hl => match us, hl with | [_, _, _, _, _], _ => rfl
theorem b__law_made (T : TX K mg) : Body P w K mg base "_law_made" s__law_made ["_law_world", "_law_name", "_law_journal", "_law_table_here", "_law_session"] 3 (spWoMade K) := by
  intro cdv A outer s H vs Q E h X hr
  obtain ⟨B, s, nm, j, f, js, gs, who, rfl, h, hj, hf, tl, el, ll, lk, nd, ev, q⟩ := h
  have D__law_event := D__law_event (P := P) (w := w) (base := base) T; have D__law_leave := D__law_leave (P := P) (w := w) (base := base) T
  refine ⟨_, (pss_cons (ps_asg (pe_op (op_addU (K := K)) (pe_ix (ix_U (K := K)) (pv 0) pe_int (fun _ _ => rfl)) (pe_lst (pa_cons (pv 3) pa_nil))) (pg_sub (pv 0) pe_int set_list)) (pss_cons (ps_asg (pe_op (op_addU (K := K)) (pe_ix (ix_U (K := K)) (pv 0) pe_int (fun _ _ => rfl)) (pe_lst (pa_cons (pe_tup (pa_cons (pv 1) (pa_cons (pv 2) pa_nil))) pa_nil))) (pg_sub (pv 0) pe_int set_list)) (Evl.pss_cut (ps_if (PW.pt (pw_and (pt_cmpR (op_neU (K := K) hr.units) (pe_ix (ix_U (K := K)) (pv 0) pe_int (fun _ _ => rfl)) (pe_lst pa_nil) (nomark _)) (pw_and1 (pt_cmpR (op_neU (K := K) hr.units) (pe_ix (ix_U (K := K)) (pe_ix (ix_U (K := K)) (pv 0) pe_int (fun _ _ => rfl)) pe_int (fun _ _ => rfl)) (pv 4) (nomark _))))) (pss_one (ps_if (pt_tru (K := K) (pe_ix (ix_U (K := K)) (pe_ix (ix_U (K := K)) (pv 0) pe_int (fun _ _ => rfl)) pe_int (fun _ _ => rfl))) (pss_one (ps_asg (pe_op op_subU (pe_callB (cr_len (K := K)) rfl (T.free 2) PySem.boot_len (pa_cons (pe_ix (ix_U (K := K)) (pv 0) pe_int (fun _ _ => rfl)) pa_nil)) pe_int) (pg_sub (pe_ix (ix_U (K := K)) (pe_ix (ix_U (K := K)) (pv 0) pe_int (fun _ _ => rfl)) (pe_ix (ix_U (K := K)) (pe_ix (ix_U (K := K)) (pv 0) pe_int (fun _ _ => rfl)) pe_int (fun _ _ => rfl)) (fun _ _ => rfl)) pe_int set_list))) (pss_one (ps_expr (pe_callA D__law_event hr pass0 (pa_cons (pv 0) pa_nil)))))) pss_nil) (pss_cons (ps_expr (pe_callA D__law_leave hr pass0 (pa_cons (pv 0) (pa_cons (pv 4) pa_nil)))) (pss_one (ps_ret (pe_op op_subU (pe_callB (cr_len (K := K)) rfl (T.free 2) PySem.boot_len (pa_cons (pe_ix (ix_U (K := K)) (pv 0) pe_int (fun _ _ => rfl)) pa_nil)) pe_int))))))), ?_⟩
  have hw : SqL K H B.w _ := SqL.of h.w
  have hl0 := h.l0
  have hen : B.es.length = s.ents.length := by rw [dta_len h.es, List.length_map]
  have hfn := h.fn
  walk_at "st"
  first | (refine c_ixL (v := .ref B.l0) hw rfl ?_; walk_at "st") | skip
  walk_at "nw"
  intro p1 H1 N1
  refine c_addL (N1.keep hl0) N1.at_ (by rw [sizeLine_eq]; simp only [List.length_cons, List.length_nil, List.length_map]; omega) fun p2 H2 N2 => ?_
  have k2 : Kp [] H H2 := N1.kp.trans N2.kp
  have hw2 := k2.at0 h.w
  walk_at "st"
  have e3 := h.w0 (f := f) (gs := gs) k2 (by rw [N2.at_, List.map_append]; rfl) (hf.fk (kp_fk k2)) (free0 N1.kp N2.fr)
  have h3 := e3.at_
  simp only [tn0, tn1, tn2, tn3, tn4, tn8, List.set_cons_succ, List.set_cons_zero]
  generalize hB : ({ B with l0 := p2, fs := B.fs ++ [f] } : WoA) = B3 at e3 h3
  generalize (upd H2 B.w (.lst [.ref p2, .ref B.l1, .ref B.l2, .ref B.l3, .ref B.l4, .ref B.l5, .ref B.d6, .ref B.d7, .ref B.l8])) = H3 at e3 h3 ⊢
  have eb : B3.es = B.es := by rw [← hB]
  rw [← e3.ww]
  have hw3 : SqL K H3 B3.w _ := SqL.of h3.w
  have hl1 : H3 B.l1 = some (.lst B3.es) := by rw [← show B3.l1 = B.l1 by rw [← hB]]; exact h3.l1
  walk_at "st"
  first | (refine c_ixL (v := .ref B3.l1) hw3 rfl ?_; walk_at "st") | skip
  walk_at "nw"
  intro p4 H4 N4
  walk_at "st"
  walk_at "nw"
  intro p5 H5 N5
  refine c_addL (N5.keep (N4.keep hl1)) N5.at_ (by rw [sizeLine_eq, eb]; simp only [List.length_cons, List.length_nil]; omega) fun p6 H6 N6 => ?_
  have k5 : Kp [] H3 H5 := N4.kp.trans N5.kp
  have k6 : Kp [] H3 H6 := k5.trans N6.kp
  have hw6 := k6.at0 h3.w
  walk_at "st"
  have hv6 : Dt K H6 (.ref p4) (entsD (nm, js)) := .tup (SqT.kp (N5.kp.trans N6.kp) (SqT.of N4.at_)) (.cons (.str _) (.cons (Dt.kp (Dt.kt e3.fk.kt hj) k6) .nil))
  have e7 := h3.w1 k6 N6.at_ hv6 (free0 k5 N6.fr)
  have h7 := e7.at_
  simp only [tn0, tn1, tn2, tn3, tn4, tn8, List.set_cons_succ, List.set_cons_zero]
  generalize hB7 : ({ B3 with l1 := p6, es := B3.es ++ [.ref p4] } : WoA) = B7 at e7 h7
  generalize (upd H6 B3.w (.lst [.ref B3.l0, .ref p6, .ref B3.l2, .ref B3.l3, .ref B3.l4, .ref B3.l5, .ref B3.d6, .ref B3.d7, .ref B3.l8])) = H7 at e7 h7 ⊢
  have e8 : Stw K H B H7 B7 (s.ver nm js gs) := e3.trans e7
  have h8 : WoAt K H7 B7 (s.ver nm js gs) := h7
  rw [← e7.ww]
  have hw7 : SqL K H7 B7.w _ := SqL.of h7.w
  have hl3 : SqL K H7 B7.l3 ((s.line.map fun n => ((n : Nat) : Int)).map V.int) := SqL.of h7.l3
  have hvt : (s.ver nm js gs).trees.length = s.trees.length + 1 := by show (s.trees ++ [gs]).length = _; rw [List.length_append]; rfl
  refine c_cut (fun σ' H' => ∃ B', B'.w = B7.w ∧ σ' = [some (.ref B7.w), some (.str nm), some (.ref j), some (.ref f), some (whoV who)] ∧ Stw K H7 B7 H' B' ((s.ver nm js gs).shift who)) ?_ ?_
  · unfold TrS.shift
    rw [show (s.ver nm js gs).line = s.line from rfl]
    walk_at "st"
    walk_at "nw"
    intro p8 H8 N8
    have k8 : Kp [] H7 H8 := N8.kp
    have h9 := h8.kp k8
    have hw9 : SqL K H8 B7.w _ := SqL.of h9.w
    have hl9 : SqL K H8 B7.l3 ((s.line.map fun n => ((n : Nat) : Int)).map V.int) := SqL.of h9.l3
    have hl94 : SqL K H8 B7.l4 _ := SqL.of h9.l4
    refine c_neLI (ms := []) hl9 (SqL.of N8.at_) ?_
    cases hl : s.line with
    | nil =>
      walk_at "dc"
      exact ⟨B7, rfl, rfl, Stw.refl h8 k8⟩
    | cons k r =>
      have hk : k < s.sess.length := lk k (by rw [hl]; exact List.mem_cons_self ..)
      have hy : (s.ver nm js gs).sess[k]? = some s.sess[k] := List.getElem?_eq_getElem hk
      have hgd : s.sess.getD k d0S = s.sess[k] := getD_of hy
      have hlk : SqL K H8 B7.l3 (((k :: r).map fun n => ((n : Nat) : Int)).map V.int) := by rw [← hl]; exact hl9
      walk_at "st"
      refine c_iteT (by rfl) ?_
      walk_at "st"
      first | (refine c_ixL (v := .ref B7.l3) hw9 rfl ?_; walk_at "st") | skip
      first | (refine c_ixL (v := .int (k : Nat)) hlk (by simp [atI, ixN]) ?_; walk_at "st") | skip
      by_cases hw : who = some k
      · subst hw
        walk_at "st"
        rw [decide_eq_true (rfl : (k : Int) = (k : Nat))]
        walk_at "dc"
        dsimp only
        rw [if_pos rfl]
        exact ⟨B7, rfl, rfl, Stw.refl h8 k8⟩
      · have wn : ∀ {Q : VK} {H' : Hp}, Q (.bl true) H' → rNeU K (.int (k : Nat)) (whoV who) H' Q := by
          clear q
          intro Q' H' z
          cases who with
          | none => exact c_neIN z
          | some k' =>
            refine c_neI ?_
            rw [decide_eq_false (fun e => hw (by rw [show k = k' by omega]))]
            exact z
        refine wn ?_
        walk_at "dc"
        first | (refine c_ixL (v := .ref B7.l4) hw9 rfl ?_; walk_at "st") | skip
        first | (refine c_ixL (v := .bl s.prot) hl94 rfl ?_; walk_at "st") | skip
        cases hp : s.prot with
        | true =>
          have hp2 : (s.ver nm js gs).prot = true := hp
          first | refine c_iteT hp2 ?_ | refine c_iteT rfl ?_ | skip
          obtain ⟨a, ha, hr⟩ := h9.at hy
          obtain ⟨j2, g1, g2⟩ := hr.ex
          have hl90 : SqL K H8 B7.l0 (B7.fs.map V.ref) := SqL.of h9.l0
          walk_at "dc"
          first | (refine c_ixL (v := .ref B7.l0) hw9 rfl ?_; walk_at "st") | skip
          rw [List.length_map, h9.fn, show (((s.ver nm js gs).trees.length : Nat) : Int) - 1 = (((s.ver nm js gs).trees.length - 1 : Nat) : Int) by omega]
          first | (refine c_ixL (v := .ref B7.l2) hw9 rfl ?_; walk_at "st") | walk_at "st"
          first | (refine c_ixL (v := .ref B7.l3) hw9 rfl ?_; walk_at "st") | skip
          first | (refine c_ixL (v := .int (k : Nat)) hlk (by simp [atI, ixN]) ?_; walk_at "st") | skip
          first | (refine c_ixL (v := .ref a) (SqL.of h9.l2) (atI_nat (j := k) (by rw [List.getElem?_map, ha]; rfl)) ?_; walk_at "st") | skip
          refine ⟨B7, rfl, rfl, ?_⟩
          dsimp only
          have hgd3 : (s.ver nm js gs).sess.getD k d0S = s.sess[k] := hgd
          rw [if_neg hw, if_pos hp2, hgd3]
          exact Stw.pre k8 h8 (h9.rowset hy ha (x' := { s.sess[k] with base := (s.ver nm js gs).trees.length - 1 }) g2)
        | false =>
          have hp2 : (s.ver nm js gs).prot = false := hp
          first | refine c_iteF hp2 ?_ | refine c_iteF rfl ?_ | skip
          walk_at "dc"
          refine ⟨B7, s.ver nm js gs, k, r, _, rfl, h9, hl, nd, ll, ev, hy, fun H4 B4 e4 => ?_⟩
          walk_at "st"
          refine ⟨B4, e4.ww, rfl, ?_⟩
          dsimp only
          rw [if_neg hw, if_neg (by rw [hp2]; exact Bool.false_ne_true)]
          exact Stw.pre k8 h8 e4
  rintro _ H9 ⟨B9, ew9, rfl, e9⟩
  have h9 := e9.at_
  have sl : ((s.ver nm js gs).shift who).line.length ≤ 1000 := by
    refine Nat.le_trans ?_ ll
    rw [show s.line = (s.ver nm js gs).line from rfl]
    unfold TrS.shift
    split
    · exact Nat.le_refl _
    · split
      · exact Nat.le_refl _
      · split
        · exact Nat.le_refl _
        · exact event_line _
  have sd : ((s.ver nm js gs).shift who).line.Nodup := by
    unfold TrS.shift
    split
    · exact nd
    · split
      · exact nd
      · split
        · exact nd
        · exact event_nd nd
  have lt9 : (((s.ver nm js gs).shift who).out who).trees.length = s.trees.length + 1 := by rw [out_trees, shift_trees, hvt]
  rw [← ew9]
  walk_at "st"
  refine ⟨B9, _, who, rfl, h9, sd, sl, fun H10 B10 e10 => ?_⟩
  have h10 := e10.at_
  have hw10 : SqL K H10 B10.w _ := SqL.of h10.w
  have h100 : SqL K H10 B10.l0 _ := SqL.of h10.l0
  rw [← e10.ww]
  walk_at "st"
  first | (refine c_ixL (v := .ref B10.l0) hw10 rfl ?_; walk_at "st") | skip
  rw [List.length_map, h10.fn, lt9, show (((s.trees.length + 1 : Nat) : Int) - 1) = (s.trees.length : Nat) by omega]
  exact q H10 B10 ((e8.trans e9).trans e10)
theorem D__law_made (T : TX K mg) : DefAt P w K mg base CX0 "_law_made" 4 ["_law_world", "_law_name", "_law_journal", "_law_table_here", "_law_session"] (spWoMade K) :=
  def_of T 51 76 sc__law_made bn__law_made (by walk_at "len") (b__law_made T)
end
end K36



namespace K36
open PySem L2 Sa
local macro_rules | `(tactic| walk_at "s1") => `(tactic| first | (with_reducible apply c_dgetK))
local macro_rules | `(tactic| walk_at "s1") => `(tactic| (with_reducible apply c_raiseO))
local macro_rules | `(tactic| walk_at "s1") => `(tactic| first | (with_reducible apply c_un) | (with_reducible apply c_negI))
local macro_rules | `(tactic| walk_at "s1") => `(tactic| first | ((with_reducible apply se_g1 (by assumption)); (· walk_at "lk")) | ((with_reducible apply se_p1 (by assumption)); (· walk_at "lk")) | ((with_reducible apply se_g2 (by assumption)); (· walk_at "lk")) | ((with_reducible apply se_p2 (by assumption)); (· walk_at "lk")) | ((with_reducible apply se_g3 (by assumption)); (· walk_at "lk")) | ((with_reducible apply se_p3 (by assumption)); (· walk_at "lk")) | ((with_reducible apply se_g4 (by assumption)); (· walk_at "lk")) | ((with_reducible apply se_p4 (by assumption)); (· walk_at "lk")) | ((with_reducible apply se_g5 (by assumption)); (· walk_at "lk")) | ((with_reducible apply se_p5 (by assumption)); (· walk_at "lk")) | ((with_reducible apply se_r); (· walk_at "lk"); (· decide +kernel)))
local macro_rules | `(tactic| walk_at "s1") => `(tactic| first | ((with_reducible apply li_g1 (by assumption)); (· walk_at "lk")) | ((with_reducible apply li_p1 (by assumption)); (· walk_at "lk")) | ((with_reducible apply li_g2 (by assumption)); (· walk_at "lk")) | ((with_reducible apply li_p2 (by assumption)); (· walk_at "lk")) | ((with_reducible apply li_g3 (by assumption)); (· walk_at "lk")) | ((with_reducible apply li_p3 (by assumption)); (· walk_at "lk")) | ((with_reducible apply li_r); (· walk_at "lk"); (· decide +kernel)))
local macro_rules | `(tactic| walk_at "s1") => `(tactic| first | ((with_reducible apply tr_g1 (by assumption)); (· walk_at "lk")) | ((with_reducible apply tr_p1 (by assumption)); (· walk_at "lk")) | ((with_reducible apply tr_g2 (by assumption)); (· walk_at "lk")) | ((with_reducible apply tr_p2 (by assumption)); (· walk_at "lk")) | ((with_reducible apply tr_g3 (by assumption)); (· walk_at "lk")) | ((with_reducible apply tr_p3 (by assumption)); (· walk_at "lk")) | ((with_reducible apply tr_g4 (by assumption)); (· walk_at "lk")) | ((with_reducible apply tr_p4 (by assumption)); (· walk_at "lk")) | ((with_reducible apply tr_g5 (by assumption)); (· walk_at "lk")) | ((with_reducible apply tr_p5 (by assumption)); (· walk_at "lk")) | ((with_reducible apply tr_g6 (by assumption)); (· walk_at "lk")) | ((with_reducible apply tr_p6 (by assumption)); (· walk_at "lk")) | ((with_reducible apply tr_g7 (by assumption)); (· walk_at "lk")) | ((with_reducible apply tr_p7 (by assumption)); (· walk_at "lk")) | ((with_reducible apply tr_g8 (by assumption)); (· walk_at "lk")) | ((with_reducible apply tr_p8 (by assumption)); (· walk_at "lk")) | ((with_reducible apply tr_g9 (by assumption)); (· walk_at "lk")) | ((with_reducible apply tr_p9 (by assumption)); (· walk_at "lk")) | ((with_reducible apply tr_r); (· walk_at "lk"); (· decide +kernel)))
set_option pp.maxSteps 1500
/-- the first part that is out of bounds in a row of actions -/
def badsF (xs : List Action) : Option Str := xs.findSome? Action.bad
theorem bads_none {xs : List Action} (h : badsF xs = none) : ∀ x ∈ xs, x.bad = none := by
  unfold badsF at h
  rw [List.findSome?_eq_none_iff] at h
  exact h
theorem bads_at : ∀ {xs : List Action} {i : Nat} {x : Action} {nm : Str}, (∀ y ∈ xs.take i, y.bad = none) → xs[i]? = some x → x.bad = some nm → badsF xs = some nm
  | [], i, x, nm, _, h, _ => by cases h
  | y :: r, 0, x, nm, _, h, hb => by
    obtain rfl := Option.some.inj h
    unfold badsF
    rw [List.findSome?_cons, hb]
  | y :: r, i + 1, x, nm, hg, h, hb => by
    have := bads_at (xs := r) (i := i) (fun z hz => hg z (List.mem_cons_of_mem _ hz)) h hb
    unfold badsF at this ⊢
    rw [List.findSome?_cons, hg y (List.mem_cons_self ..)]
    exact this
def TrS.newest (s : TrS) : List File := s.trees.getD (s.trees.length - 1) []
def TrS.app (s : TrS) (nm : Str) (xs : List Action) : TrS := { s with prot := false }.make nm (runF s.newest xs).1 (runF s.newest xs).2 none
def TrS.bars (s : TrS) (k : Nat) (fs : List File) : Bool := match s.line with
  | [] => false
  | f :: _ => if f = k then false else s.prot && !(changeF 0 fs (s.sess.getD f d0S).jour).isNone
def TrS.join (s : TrS) (k : Nat) : TrS := { s with line := s.line ++ [k], prot := if s.line = [] then true else s.prot }
def TrS.refuse (s : TrS) (k at_ : Nat) : TrS :=
  let y := s.sess.getD k d0S
  let s1 := s.sset k { y with base := s.trees.length - 1, jour := y.jour.take at_, refs := y.refs + 1 }
  if k ∈ s.line then (if s.line.head? = some k then { s1 with prot := true } else s1) else if s.pat ≤ y.refs + 1 then s1.join k else s1
inductive Res where
  | refused (a : Nat) (d : PyData) (n : Nat) | waiting | accepted (n : Nat)
def Res.d : Res → PyData
  | .refused a d n => .tuple [.str "refused", .int (a : Nat), d, .int (n : Nat)]
  | .waiting => .tuple [.str "waiting"]
  | .accepted n => .tuple [.str "accepted", .int (n : Nat)]
def TrS.submit (s : TrS) (k : Nat) : Res × TrS :=
  let y := s.sess.getD k d0S
  match standF s y with
  | some c => (.refused c.1 c.2.1 c.2.2, s.refuse k c.1)
  | none =>
    let fs := leadF s.newest (y.jour.map Prod.fst)
    if s.bars k fs then (.waiting, s.event) else (.accepted s.trees.length, (s.sset k { y with st := "accepted" }).make y.nm y.jour fs (some k))
section
variable {P : Program} {w : World} {K : PySem.W.Frag} {mg : Str → Option Value} {base : Heap}
def spRunL (K : PySem.W.Frag) : Sp := fun vs H Q _ => ∃ (t a : Addr) (xs : List Action) (fs : List File), vs = [.ref t, .ref a] ∧ TreeG K H t fs ∧ ActsL K H a xs ∧ xs.length ≤ 60 ∧ (∀ x ∈ xs, x.bad = none) ∧
  ∀ p j t' H', Kp [] H H' → SqT K H' p [.ref j, .ref t'] → Dt K H' (.ref j) (jourD (runF fs xs).1) → TreeG K H' t' (runF fs xs).2 → Q (.ref p) H'

theorem b_run__L (T : TX K mg) : BodyX P w K mg base "run" s_run ["tree", "actions", "journal", "action", "answer"] 10 (spRunL K) := by
  intro cdv A outer s H vs Q E h X hr tk
  obtain ⟨t, a, xs, fs, rfl, ht, hA, hl, hb, q⟩ := h
  have D_act := D_act (P := P) (w := w) (base := base) T
  refine ⟨_, (pss_cons (ps_set (i := 2) sc_run.nd rfl (Or.inl rfl) (pe_lst pa_nil)) (pss_cons (ps_for (passes_of rfl) rfl (pi_listU (K := K) (pv 1)) (pg_name (i := 3) sc_run.nd rfl (Or.inl rfl)) (pss_cons (ps_asg (pe_callX D_act hr tk (pa_cons (pv 0) (pa_cons (pv 3) pa_nil))) (pg_tupU (K := K) (n := 2) rfl (pgs_cons (pg_name (i := 4) sc_run.nd rfl (Or.inl rfl)) (pgs_cons (pg_name (i := 0) sc_run.nd rfl (Or.inl rfl)) pgs_nil)))) (pss_one (ps_expr (pe_appendU (K := K) (pv 2) (pe_tup (pa_cons (pv 3) (pa_cons (pv 4) pa_nil)))))))) (pss_one (ps_ret (pe_tup (pa_cons (pe_callTy (cr_tuple (K := K)) rfl (T.free 28) (by decide +kernel) (pa_cons (pv 2) pa_nil)) (pa_cons (pv 0) pa_nil))))))), ?_⟩
  obtain ⟨as, hvs, hal, has⟩ := id hA.ex
  walk_at "st"
  walk_at "nw"
  intro l H1 N1
  walk_at "st"
  have hv1 := SqL.kp N1.kp hvs
  first | refine ⟨a, rfl, ⟨_, hv1⟩, ?_⟩ | skip
  refine forQ (itn_l (ys := as) (u := V.ref)) (fun i σ H' => ∃ t' v3 v4 ws, σ = [some (.ref t'), some (.ref a), some (.ref l), v3, v4] ∧ Kp [] H H' ∧ H' l = some (.lst ws) ∧ DtAll K H' ws ((runF fs (xs.take i)).1.map entryD) ∧ ws.length ≤ i ∧ TreeG K H' t' (runF fs (xs.take i)).2)
    ⟨t, _, _, [], rfl, N1.kp, N1.at_, .nil, Nat.le_refl _, ht.kp N1.kp⟩ (by rintro i σ H' ⟨_, _, _, _, _, e, _⟩; exact SqL.kp e hvs) ?_ ?_
  · rintro i y σ _ H2 hi ⟨t', v3, v4, ws, rfl, e2, hl2, hws, hwl, ht'⟩ ⟨rfl, ai, hai, rfl⟩
    obtain ⟨x, hx⟩ : ∃ x, xs[i]? = some x := ⟨_, List.getElem?_eq_getElem (by omega)⟩
    obtain ⟨ai', hai', hact⟩ := has i x hx
    rw [hai] at hai'
    obtain rfl := Option.some.inj hai'
    have hxb := hb x (List.mem_of_getElem? hx)
    have et : runF fs (xs.take (i + 1)) = stepJ (runF fs (xs.take i)) x := by rw [take_succ' hx, run_snoc]
    walk_at "st"
    refine ⟨t', ai, x, _, rfl, ht', hact.kp e2, bad_sane hxb, fun _ => fun p v t2 H3 e3 hp hv hT => ?_, fun nm h => by rw [hxb] at h; cases h⟩
    walk_at "st"
    walk_at "nw"
    intro p4 H4 N4
    have hl4 := N4.keep (e3.at0 hl2)
    refine ⟨l, _, _, rfl, rfl, hl4, by rw [sizeLine_eq]; omega, ?_⟩
    walk_at "st"
    have kt : Kt H4 (upd H4 l (.lst (ws ++ [V.ref p4]))) := Kt.upd1 (NoT.lst hl4)
    have k4 : Kp [] H H4 := (e2.trans e3).trans N4.kp
    refine ⟨t2, _, _, ws ++ [V.ref p4], rfl, k4.fresh_mut N1.fr, upd_same, ?_, by rw [List.length_append, List.length_singleton]; omega, ?_⟩
    · rw [et]
      unfold stepJ
      rw [List.map_append]
      refine dta_snoc (DtAll.kt ((e3.trans N4.kp).kt.trans kt) hws) (.tup (SqT.kt kt (SqT.of N4.at_)) (.cons (Dt.kt ((e3.trans N4.kp).kt.trans kt) (hact.kp e2).dt) (.cons (Dt.kt (N4.kp.kt.trans kt) hv) .nil)))
    · rw [et]
      obtain ⟨⟨dx, dd, ls, g1, g2, g3, g4, g5⟩, gg⟩ := hT.kp N4.kp
      have n1 : t2 ≠ l := fun z => by rw [z, hl4] at g1; cases g1
      have n2 : dd ≠ l := fun z => by rw [z, hl4] at g2; cases g2
      exact ⟨⟨dx, dd, ls, upd_other n1 g1, upd_other n2 g2, fun r hr => SqT.kt kt (g3 r hr), g4, g5⟩, gg⟩
  · rintro σ H2 ⟨t', v3, v4, ws, rfl, e2, hl2, hws, hwl, ht'⟩
    rw [hal, List.take_length] at hws ht'
    walk_at "st"
    refine c_tupleL (SqL.of hl2) fun p3 H3 N3 => ?_
    walk_at "st"
    walk_at "nw"
    intro p4 H4 N4
    exact q p4 p3 t' H4 ((e2.trans N3.kp).trans N4.kp) (SqT.of N4.at_) (.tup (SqT.of (N4.keep N3.at_)) (DtAll.kp hws (N3.kp.trans N4.kp))) ((ht'.kp N3.kp).kp N4.kp)
theorem D_run__L (T : TX K mg) : DefAt P w K mg base (L2.CX P w) "run" 11 ["tree", "actions"] (spRunL K) :=
  def_ofX T 24 47 sc_run bn_run (by walk_at "len") (b_run__L T)
def spTrRoom (K : PySem.W.Frag) : Sp := fun vs H Q E => ∃ (A : TrA) (s : TrS), vs = [.ref A.t] ∧ TrAt K H A s ∧ (s.trees.length = 201 → NoS K H E "TooManyVersions") ∧ (s.trees.length ≠ 201 → Q .non H)
theorem sc_Trunk__check_room : FnScope ["self"] ["self"] (defScope s_Trunk__check_room) := ⟨rfl, rfl, rfl, by decide +kernel, rfl, by decide +kernel, by decide +kernel⟩
theorem bn_Trunk__check_room : BindM "_check_room" "Trunk._check_room" s_Trunk__check_room ["self"] := fun _ _ _ _ _ _ us hl => match us, hl with | [_], _ => rfl
theorem b_Trunk__check_room (T : TX K mg) : BodyMX P w K mg base "Trunk" "_check_room" "Trunk._check_room" s_Trunk__check_room ["self"] 2 (spTrRoom K) := by
  intro cdv A outer s H vs Q E h X hr tk
  obtain ⟨A, s, rfl, h, q1, q2⟩ := h
  have C_Trunk := C_Trunk T; have M_Trunk_version := M_Trunk_version (P := P) (w := w) (base := base) T
  refine ⟨_, (pss_one (ps_if (pt_cmpR (op_eqU (K := K) hr.units) (pe_methS0 M_Trunk_version C_Trunk hr at0 (pv 0)) (pe_gInt (T.int 91)) (nomark _)) (pss_one (ps_raiseO (K := K) (T.exo 80 115) tk)) pss_nil)), ?_⟩
  have ht := h.t
  walk_at "st"
  refine ⟨A, s, rfl, h, ?_⟩
  walk_at "st"
  refine c_ite (fun g => ?_) (fun g => ?_)
  · walk_at "st"
    exact q1 (by omega) H Kp.refl
  · walk_at "st"
    exact q2 (by omega)
theorem M_Trunk__check_room (T : TX K mg) : MethAt P w K mg base (L2.CX P w) "Trunk" "_check_room" 3 ["self"] (spTrRoom K) :=
  meth_ofX T 82 116 sc_Trunk__check_room bn_Trunk__check_room (by walk_at "len") (b_Trunk__check_room T)
def spTrApp (K : PySem.W.Frag) : Sp := fun vs H Q E => ∃ (A : TrA) (s : TrS) (nm : Str) (a : Addr) (xs : List Action), vs = [.ref A.t, .str nm, .ref a] ∧ TrAt K H A s ∧ nm.length ≤ 1000 ∧ ActsL K H a xs ∧ xs.length ≤ 60 ∧ (∀ x ∈ xs, x.sane) ∧ s.trees.length ≤ 1000 ∧ s.ents.length ≤ 1000 ∧ s.line.length ≤ 1000 ∧ (∀ k ∈ s.line, k < s.sess.length) ∧ 1 ≤ s.trees.length ∧
  (isNameS nm = false → RaisesE K H E "name") ∧ (isNameS nm = true → (∀ z, badsF xs = some z → RaisesE K H E z) ∧ (badsF xs = none → (s.trees.length = 201 → NoS K H E "TooManyVersions") ∧ (s.trees.length ≠ 201 → ∀ H' A', Stp K H A H' A' (s.app nm xs) → Q (.int (s.trees.length : Nat)) H')))
theorem sc_Trunk_append : FnScope ["self", "name", "actions", "action", "journal", "tree"] ["self", "name", "actions"] (defScope s_Trunk_append) := ⟨rfl, rfl, rfl, by decide +kernel, rfl, by decide +kernel, by decide +kernel⟩
theorem bn_Trunk_append : BindM "append" "Trunk.append" s_Trunk_append ["self", "name", "actions"] := fun _ _ _ _ _ _ us hl => match us, hl with | [_, _, _], _ => rfl
theorem b_Trunk_append (T : TX K mg) : BodyMX P w K mg base "Trunk" "append" "Trunk.append" s_Trunk_append ["self", "name", "actions", "action", "journal", "tree"] 11 (spTrApp K) := by
  intro cdv A outer s H vs Q E h X hr tk
  obtain ⟨A, s, nm, a, xs, rfl, h, hnm, hA, hxl, hxs, tl, el, ll, lk, t1, q1, q2⟩ := h
  have C_Trunk := C_Trunk T; have D_check_action := D_check_action (P := P) (w := w) (base := base) T; have D_is_name := D_is_name (P := P) (w := w) (base := base) T; have D_run__L := D_run__L (P := P) (w := w) (base := base) T; have E_OutOfRange := E_OutOfRange (P := P) (w := w) (base := base) T; have M_Trunk__check_room := M_Trunk__check_room (P := P) (w := w) (base := base) T; have M_Trunk__make := M_Trunk__make (P := P) (w := w) (base := base) T
  refine ⟨_, (pss_cons (ps_if (pt_not (pt_tru (K := K) (pe_callA D_is_name hr pass0 (pa_cons (pv 1) pa_nil)))) (pss_one (ps_raiseE (K := K) E_OutOfRange hr tk (pa_cons pe_str pa_nil))) pss_nil) (pss_cons (ps_for (passes_of rfl) rfl (pi_listU (K := K) (pv 2)) (pg_name (i := 3) sc_Trunk_append.nd rfl (Or.inl rfl)) (pss_one (ps_expr (pe_callX D_check_action hr tk (pa_cons (pv 3) pa_nil))))) (pss_cons (ps_expr (pe_methS0 M_Trunk__check_room C_Trunk hr (atW tk) (pv 0))) (pss_cons (ps_asg (pe_callA D_run__L hr passE0 (pa_cons (pe_ix (ix_U (K := K)) (pe_fldU (K := K) (pv 0)) (pe_un un_neg pe_int) (fun _ _ => rfl)) (pa_cons (pv 2) pa_nil))) (pg_tupU (K := K) (n := 2) rfl (pgs_cons (pg_name (i := 4) sc_Trunk_append.nd rfl (Or.inl rfl)) (pgs_cons (pg_name (i := 5) sc_Trunk_append.nd rfl (Or.inl rfl)) pgs_nil)))) (pss_cons (ps_fldU (K := K) (pe_fldU (K := K) (pv 0)) pe_bl) (pss_one (ps_ret (pe_methS1 M_Trunk__make C_Trunk hr at0 (pv 0) (pa_cons (pv 1) (pa_cons (pv 4) (pa_cons (pv 5) (pa_cons pe_non pa_nil)))))))))))), ?_⟩
  have ht := h.t
  obtain ⟨as, hvs, hal, has⟩ := id hA.ex
  walk_at "st"
  refine ⟨nm, rfl, by omega, fun H1 e1 => ?_⟩
  walk_at "st"
  refine c_iteNB (fun gn => ?_) (fun gn => ?_)
  · walk_at "st"
    exact c_err fun d H2 N => q1 gn d H2 (e1.trans N.kp) N.at_
  obtain ⟨qb, qg⟩ := q2 gn
  walk_at "st"
  first | refine ⟨a, rfl, ⟨_, SqL.kp e1 hvs⟩, ?_⟩ | skip
  refine forQ (itn_l (ys := as) (u := V.ref)) (fun i σ H' => ∃ v3 v4 v5 v6, σ = [some (.ref A.t), some (.str nm), some (.ref a), v3, v4, v5] ∧ v6 = v3 ∧ Kp [] H H' ∧ ∀ y ∈ xs.take i, y.bad = none)
    ⟨_, _, _, _, rfl, rfl, e1, by simp⟩ (by rintro i σ H' ⟨_, _, _, _, _, _, e, _⟩; exact SqL.kp e hvs) ?_ ?_
  · rintro i y σ _ H2 hi ⟨v3, v4, v5, v6, rfl, _, e2, hg⟩ ⟨rfl, ai, hai, rfl⟩
    obtain ⟨x, hx⟩ : ∃ x, xs[i]? = some x := ⟨_, List.getElem?_eq_getElem (by omega)⟩
    obtain ⟨ai', hai', hact⟩ := has i x hx
    rw [hai] at hai'
    obtain rfl := Option.some.inj hai'
    walk_at "st"
    refine ⟨ai, x, rfl, hact.kp e2, hxs x (List.mem_of_getElem? hx), fun hb H3 e3 => ?_, fun z hz => (qb z (bads_at hg hx hz)).kp e2⟩
    walk_at "st"
    refine ⟨_, _, _, _, rfl, rfl, e2.trans e3, fun z hz => ?_⟩
    rw [take_succ' hx] at hz
    rcases List.mem_append.mp hz with hz | hz
    · exact hg z hz
    · rw [List.mem_singleton.mp hz]; exact hb
  rintro σ H2 ⟨v3, v4, v5, v6, rfl, _, e2, hg⟩
  rw [hal, List.take_length] at hg
  have hbn : badsF xs = none := by
    unfold badsF
    rw [List.findSome?_eq_none_iff]
    exact hg
  obtain ⟨qf, qd⟩ := qg hbn
  have h2 := h.kp e2
  have ht2 := h2.t
  walk_at "st"
  refine ⟨A, s, rfl, h2, fun g H' e => qf g H' (e2.trans e), fun g => ?_⟩
  have htr : s.trees[s.trees.length - 1]? = some s.newest := by unfold TrS.newest; rw [List.getD_eq_getElem?_getD, List.getElem?_eq_getElem (by omega)]; rfl
  obtain ⟨ta, hta, hT⟩ := h2.tree htr
  walk_at "st"
  refine c_ixL (v := .ref ta) (SqL.of h2.tl) (atI_last (by rw [List.length_map, h2.tn, List.getElem?_map, hta]; rfl)) ?_
  walk_at "st"
  refine ⟨ta, a, xs, _, rfl, hT, hA.kp e2, hxl, hg, fun p j t' H3 e3 hp hj hT3 => ?_⟩
  have h3 := h2.kp e3
  have ht3 := h3.t
  have hli3 := h3.li
  walk_at "st"
  have e4 := h3.liset (p := false) (n := s.events)
  have h4 := e4.at_
  generalize (upd H3 A.li (.ins (He.ga K "Line") A.dy (liF (.ref A.ll) (.bl false) (.int (s.events : Nat))))) = H4 at e4 h4 ⊢
  have ht4 := h4.t
  walk_at "st"
  refine ⟨A, _, nm, j, t', (runF s.newest xs).1, (runF s.newest xs).2, none, rfl, h4, Dt.kt e4.fk.kt hj, hT3.fk e4.fk, tl, el, ll, lk, t1, fun H5 A5 e5 => ?_⟩
  walk_at "st"
  have e23 : Kp [] H H3 := e2.trans e3
  exact qd g H5 A5 (((Stp.refl h e23).trans e4 h).trans e5 h)
theorem M_Trunk_append (T : TX K mg) : MethAt P w K mg base (L2.CX P w) "Trunk" "append" 12 ["self", "name", "actions"] (spTrApp K) :=
  meth_ofX T 81 114 sc_Trunk_append bn_Trunk_append (by walk_at "len") (b_Trunk_append T)
def spLiJoin (K : PySem.W.Frag) : Sp := fun vs H Q _ => ∃ (A : TrA) (s : TrS) (k : Nat), vs = [.ref A.li, .int (k : Nat)] ∧ TrAt K H A s ∧ s.line.length ≤ 1000 ∧ ∀ H', Stp K H A H' A (s.join k) → Q .non H'
theorem sc_Line_join : FnScope ["self", "session"] ["self", "session"] (defScope s_Line_join) := ⟨rfl, rfl, rfl, by decide +kernel, rfl, by decide +kernel, by decide +kernel⟩
theorem bn_Line_join : BindM "join" "Line.join" s_Line_join ["self", "session"] := fun _ _ _ _ _ _ us hl => match us, hl with | [_, _], _ => rfl
theorem b_Line_join (T : TX K mg) : BodyM P w K mg base "Line" "join" "Line.join" s_Line_join ["self", "session"] 1 (spLiJoin K) := by
  intro cdv A outer s H vs Q E h X hr
  obtain ⟨A, s, k, rfl, h, hn, q⟩ := h
  refine ⟨_, (pss_cons (ps_expr (pe_appendU (K := K) (pe_fldU (K := K) (pv 0)) (pv 1))) (pss_one (ps_if (pt_cmpR (op_eqU (K := K) hr.units) (pe_callB (cr_len (K := K)) rfl (T.free 2) PySem.boot_len (pa_cons (pe_fldU (K := K) (pv 0)) pa_nil)) pe_int (nomark _)) (pss_one (ps_fldU (K := K) (pv 0) pe_bl)) pss_nil))), ?_⟩
  have hli := h.li
  have hll := h.ll
  walk_at "st"
  have e1 := h.llset (l := s.line ++ [k])
  have h1 := e1.at_
  simp only [List.map_append, List.map_cons, List.map_nil] at e1 h1
  generalize (upd H A.ll (.lst ((s.line.map fun n => ((n : Nat) : Int)).map V.int ++ [.int (k : Nat)]))) = H1 at e1 h1 ⊢
  have hli1 := h1.li
  have hll1 := h1.ll
  walk_at "st"
  have en : (((s.line ++ [k]).map fun n => ((n : Nat) : Int)).map V.int).length = s.line.length + 1 := by rw [List.length_map, List.length_map, List.length_append]; rfl
  rw [en]
  refine c_ite (fun g => ?_) (fun g => ?_)
  · have hn : s.line = [] := List.eq_nil_of_length_eq_zero (by omega)
    walk_at "st"
    refine q _ ?_
    unfold TrS.join
    rw [if_pos hn]
    exact e1.trans (h1.liset (p := true) (n := s.events)) h
  · have hn : s.line ≠ [] := fun z => g (by rw [z]; rfl)
    walk_at "st"
    refine q _ ?_
    unfold TrS.join
    rw [if_neg hn]
    exact e1
theorem M_Line_join (T : TX K mg) : MethAt P w K mg base CX0 "Line" "join" 2 ["self", "session"] (spLiJoin K) :=
  meth_of T 75 108 sc_Line_join bn_Line_join (by walk_at "len") (b_Line_join T)
def spTrRefuse (K : PySem.W.Frag) : Sp := fun vs H Q _ => ∃ (A : TrA) (s : TrS) (k at_ : Nat) (y : Sess), vs = [.ref A.t, .int (k : Nat), .int (at_ : Nat)] ∧ TrAt K H A s ∧ s.sess[k]? = some y ∧ s.line.length ≤ 900 ∧ 1 ≤ s.trees.length ∧ ∀ H', Stp K H A H' A (s.refuse k at_) → Q .non H'
theorem sc_Trunk__refuse : FnScope ["self", "session", "at", "found"] ["self", "session", "at"] (defScope s_Trunk__refuse) := ⟨rfl, rfl, rfl, by decide +kernel, rfl, by decide +kernel, by decide +kernel⟩
theorem bn_Trunk__refuse : BindM "_refuse" "Trunk._refuse" s_Trunk__refuse ["self", "session", "at"] := fun _ _ _ _ _ _ us hl => match us, hl with | [_, _, _], _ => rfl
theorem b_Trunk__refuse (T : TX K mg) : BodyM P w K mg base "Trunk" "_refuse" "Trunk._refuse" s_Trunk__refuse ["self", "session", "at", "found"] 2 (spTrRefuse K) := by
  intro cdv A outer s H vs Q E h X hr
  obtain ⟨A, s, k, at_, y, rfl, h, hy, ll, t1, q⟩ := h
  have C_Line := C_Line T; have C_Trunk := C_Trunk T; have M_Line_first := M_Line_first (P := P) (w := w) (base := base) T; have M_Line_join := M_Line_join (P := P) (w := w) (base := base) T; have M_Trunk_version := M_Trunk_version (P := P) (w := w) (base := base) T
  refine ⟨_, (pss_cons (ps_set (i := 3) sc_Trunk__refuse.nd rfl (Or.inl rfl) (pe_ix (ix_U (K := K)) (pe_fldU (K := K) (pv 0)) (pv 1) (fun _ _ => rfl))) (pss_cons (ps_fldU (K := K) (pv 3) (pe_methS0 M_Trunk_version C_Trunk hr at0 (pv 0))) (pss_cons (ps_fldU (K := K) (pv 3) (pe_slice (sl_U (K := K)) (pe_fldU (K := K) (pv 3)) po_none (po_some (pv 2)))) (pss_cons (ps_fldU (K := K) (pv 3) (pe_op (op_addU (K := K)) (pe_fldU (K := K) (pv 3)) pe_int)) (pss_one (ps_if (pt_cmpR (op_notInU (K := K)) (pv 1) (pe_fldU (K := K) (pe_fldU (K := K) (pv 0))) rfl) (pss_one (ps_if (pt_cmpR op_geU (pe_fldU (K := K) (pv 3)) (pe_fldU (K := K) (pv 0)) (nomark _)) (pss_one (ps_expr (pe_methS1 M_Line_join C_Line hr at0 (pe_fldU (K := K) (pv 0)) (pa_cons (pv 1) pa_nil)))) pss_nil)) (pss_one (ps_if (pt_cmpR (op_eqU (K := K) hr.units) (pv 1) (pe_methS0 M_Line_first C_Line hr at0 (pe_fldU (K := K) (pv 0))) (nomark _)) (pss_one (ps_fldU (K := K) (pe_fldU (K := K) (pv 0)) pe_bl)) pss_nil)))))))), ?_⟩
  have ht := h.t
  obtain ⟨a, ha, hs⟩ := h.at hy
  obtain ⟨dx, j, g1, g2⟩ := hs.ex
  have hgd : s.sess.getD k d0S = y := getD_of hy
  have hkl : k < s.sess.length := (List.getElem?_eq_some_iff.mp hy).1
  have eb : (s.trees.length : Int) - 1 = ((s.trees.length - 1 : Nat) : Int) := by omega
  walk_at "st"
  first | (refine c_ixL (v := .ref a) (SqL.of h.sl) (atI_nat (j := k) (by rw [List.getElem?_map, ha]; rfl)) ?_; walk_at "st") | skip
  refine ⟨A, s, rfl, h, ?_⟩
  rw [eb]
  walk_at "st"
  have e1 := h.sset hy ha (x' := { y with base := s.trees.length - 1 }) (dx := dx) g2
  have hy1 : (s.sset k { y with base := s.trees.length - 1 }).sess[k]? = some { y with base := s.trees.length - 1 } := List.getElem?_set_self hkl
  dsimp only at e1
  have g3 : (upd H a (HO.ins (He.ga K "Session") dx (seF (.str y.nm) (.int ((s.trees.length - 1 : Nat) : Int)) (.ref j) (.int (y.refs : Nat)) (.str y.st)))) a = some (HO.ins (He.ga K "Session") dx (seF (.str y.nm) (.int ((s.trees.length - 1 : Nat) : Int)) (.ref j) (.int (y.refs : Nat)) (.str y.st))) := upd_same
  generalize (upd H a (HO.ins (He.ga K "Session") dx (seF (.str y.nm) (.int ((s.trees.length - 1 : Nat) : Int)) (.ref j) (.int (y.refs : Nat)) (.str y.st)))) = H1 at e1 g3 ⊢
  have h1 := e1.at_
  have g4 := Dt.kt e1.fk.kt g2
  obtain ⟨j1', ys, ej, hys, hjs⟩ := dt_tup g4
  injection ej with ej
  subst ej
  walk_at "st"
  refine c_slT hys fun p2 H2 e2 hp2 => ?_
  rw [cut_takeT] at hp2
  have h2 := h1.kp e2
  have g5 := e2.at0 g3
  have hj2 : Dt K H2 (.ref p2) (jourD (y.jour.take at_)) := .tup hp2 (by rw [List.map_take]; exact dta_take _ (DtAll.kp hjs e2))
  walk_at "st"
  have e3 := h2.sset hy1 ha (x' := { y with base := s.trees.length - 1, jour := y.jour.take at_ }) (dx := dx) hj2
  dsimp only at e3
  have g6 : (upd H2 a (HO.ins (He.ga K "Session") dx (seF (.str y.nm) (.int ((s.trees.length - 1 : Nat) : Int)) (.ref p2) (.int (y.refs : Nat)) (.str y.st)))) a = some (HO.ins (He.ga K "Session") dx (seF (.str y.nm) (.int ((s.trees.length - 1 : Nat) : Int)) (.ref p2) (.int (y.refs : Nat)) (.str y.st))) := upd_same
  generalize (upd H2 a (HO.ins (He.ga K "Session") dx (seF (.str y.nm) (.int ((s.trees.length - 1 : Nat) : Int)) (.ref p2) (.int (y.refs : Nat)) (.str y.st)))) = H3 at e3 g6 ⊢
  have h3 := e3.at_
  have hy3 : ((s.sset k { y with base := s.trees.length - 1 }).sset k { y with base := s.trees.length - 1, jour := y.jour.take at_ }).sess[k]? = some { y with base := s.trees.length - 1, jour := y.jour.take at_ } := List.getElem?_set_self (by show k < (s.sess.set k _).length; rw [List.length_set]; exact hkl)
  walk_at "st"
  have e4 := h3.sset hy3 ha (x' := { y with base := s.trees.length - 1, jour := y.jour.take at_, refs := y.refs + 1 }) (dx := dx) (Dt.kt e3.fk.kt hj2)
  rw [show ((y.refs : Nat) : Int) + 1 = ((y.refs + 1 : Nat) : Int) by omega]
  dsimp only at e4
  have g8 : (upd H3 a (HO.ins (He.ga K "Session") dx (seF (.str y.nm) (.int ((s.trees.length - 1 : Nat) : Int)) (.ref p2) (.int ((y.refs + 1 : Nat) : Int)) (.str y.st)))) a = some (HO.ins (He.ga K "Session") dx (seF (.str y.nm) (.int ((s.trees.length - 1 : Nat) : Int)) (.ref p2) (.int ((y.refs + 1 : Nat) : Int)) (.str y.st))) := upd_same
  generalize (upd H3 a (HO.ins (He.ga K "Session") dx (seF (.str y.nm) (.int ((s.trees.length - 1 : Nat) : Int)) (.ref p2) (.int ((y.refs + 1 : Nat) : Int)) (.str y.st)))) = H4 at e4 g8 ⊢
  have es : (((s.sset k { y with base := s.trees.length - 1 }).sset k { y with base := s.trees.length - 1, jour := y.jour.take at_ }).sset k { y with base := s.trees.length - 1, jour := y.jour.take at_, refs := y.refs + 1 }) = s.sset k { y with base := s.trees.length - 1, jour := y.jour.take at_, refs := y.refs + 1 } := by
    unfold TrS.sset
    simp only [List.set_set]
  rw [es] at e4
  have e5 := ((e1.trans (Stp.refl h1 e2) h).trans e3 h).trans e4 h
  have h5 := e5.at_
  have hy5 : (s.sset k { y with base := s.trees.length - 1, jour := y.jour.take at_, refs := y.refs + 1 }).sess[k]? = some { y with base := s.trees.length - 1, jour := y.jour.take at_, refs := y.refs + 1 } := List.getElem?_set_self hkl
  have ht5 := h5.t
  have hli5 := h5.li
  have hll5 : SqL K H4 A.ll ((s.line.map fun n => ((n : Nat) : Int)).map V.int) := SqL.of h5.ll
  have qq : ∀ H', Stp K H A H' A (if k ∈ s.line then (if s.line.head? = some k then { s.sset k { y with base := s.trees.length - 1, jour := y.jour.take at_, refs := y.refs + 1 } with prot := true } else s.sset k { y with base := s.trees.length - 1, jour := y.jour.take at_, refs := y.refs + 1 }) else if s.pat ≤ y.refs + 1 then (s.sset k { y with base := s.trees.length - 1, jour := y.jour.take at_, refs := y.refs + 1 }).join k else s.sset k { y with base := s.trees.length - 1, jour := y.jour.take at_, refs := y.refs + 1 }) → Q .non H' := fun H' st => by
    refine q H' ?_
    unfold TrS.refuse
    rw [hgd]
    exact st
  walk_at "st"
  refine c_notInI hll5 ?_
  rw [decide_eq_decide.mpr (mem_cast k s.line)]
  walk_at "st"
  refine c_iteN (fun g => ?_) (fun g => ?_)
  · simp only [if_neg g] at qq
    walk_at "st"
    refine c_ite (fun g2 => ?_) (fun g2 => ?_)
    · walk_at "st"
      refine ⟨A, _, k, rfl, h5, by show s.line.length ≤ 1000; omega, fun H6 e6 => ?_⟩
      walk_at "st"
      refine qq H6 ?_
      have g3 : ((s.pat : Nat) : Int) ≤ ((y.refs + 1 : Nat) : Int) := g2
      rw [if_pos (by omega)]
      exact e5.trans e6 h
    · walk_at "st"
      refine qq _ ?_
      have g3 : ¬ ((s.pat : Nat) : Int) ≤ ((y.refs + 1 : Nat) : Int) := g2
      rw [if_neg (by omega)]
      exact e5
  · simp only [if_pos g] at qq
    obtain ⟨k0, r, hl⟩ : ∃ k0 r, s.line = k0 :: r := by
      cases hl : s.line with
      | nil => rw [hl] at g; cases g
      | cons k0 r => exact ⟨k0, r, rfl⟩
    walk_at "st"
    refine ⟨A, _, rfl, h5, ?_⟩
    have ef : firstV (s.sset k { y with base := s.trees.length - 1, jour := y.jour.take at_, refs := y.refs + 1 }) = .int (k0 : Nat) := by
      unfold firstV
      show (match s.line with | [] => V.non | k :: _ => .int (k : Nat)) = _
      rw [hl]
    rw [ef]
    walk_at "st"
    refine c_ite (fun g2 => ?_) (fun g2 => ?_)
    · walk_at "st"
      refine qq _ ?_
      rw [if_pos (by rw [hl, List.head?_cons, Option.some_inj]; omega)]
      exact e5.trans (h5.liset (p := true) (n := s.events)) h
    · walk_at "st"
      refine qq _ ?_
      rw [if_neg (by rw [hl, List.head?_cons, Option.some_inj]; omega)]
      exact e5
theorem M_Trunk__refuse (T : TX K mg) : MethAt P w K mg base CX0 "Trunk" "_refuse" 3 ["self", "session", "at"] (spTrRefuse K) :=
  meth_of T 90 128 sc_Trunk__refuse bn_Trunk__refuse (by walk_at "len") (b_Trunk__refuse T)
def spTrBars (K : PySem.W.Frag) : Sp := fun vs H Q E => ∃ (A : TrA) (s : TrS) (k : Nat) (t : Addr) (fs : List File), vs = [.ref A.t, .int (k : Nat), .ref t] ∧ TrAt K H A s ∧ (∀ y ∈ s.sess, SessOk s y) ∧ TreeG K H t fs ∧ (∀ k ∈ s.line, k < s.sess.length) ∧ ∀ H', Kp [] H H' → Q (.bl (s.bars k fs)) H'
theorem sc_Trunk__is_barred : FnScope ["self", "session", "candidate", "first"] ["self", "session", "candidate"] (defScope s_Trunk__is_barred) := ⟨rfl, rfl, rfl, by decide +kernel, rfl, by decide +kernel, by decide +kernel⟩
theorem bn_Trunk__is_barred : BindM "_is_barred" "Trunk._is_barred" s_Trunk__is_barred ["self", "session", "candidate"] := fun _ _ _ _ _ _ us hl => match us, hl with | [_, _, _], _ => rfl
theorem b_Trunk__is_barred (T : TX K mg) : BodyM P w K mg base "Trunk" "_is_barred" "Trunk._is_barred" s_Trunk__is_barred ["self", "session", "candidate", "first"] 12 (spTrBars K) := by
  intro cdv A outer s H vs Q E h X hr
  obtain ⟨A, s, k, t, fs, rfl, h, ok, hT, lk, q⟩ := h
  have C_Line := C_Line T; have D_holds := D_holds (P := P) (w := w) (base := base) T; have M_Line_first := M_Line_first (P := P) (w := w) (base := base) T
  refine ⟨_, (pss_cons (ps_set (i := 3) sc_Trunk__is_barred.nd rfl (Or.inl rfl) (pe_methS0 M_Line_first C_Line hr at0 (pe_fldU (K := K) (pv 0)))) (pss_cons (ps_if (PW.pt (pw_or (pt_cmpR op_isU (pv 3) pe_non (nomark _)) (pw_or (pt_cmpR (op_eqU (K := K) hr.units) (pv 3) (pv 1) (nomark _)) (pw_or1 (pt_not (pt_tru (K := K) (pe_fldU (K := K) (pe_fldU (K := K) (pv 0))))))))) (pss_one (ps_ret pe_bl)) pss_nil) (pss_one (ps_ret (pe_not (pe_callA D_holds hr passE0 (pa_cons (pe_fldU (K := K) (pe_ix (ix_U (K := K)) (pe_fldU (K := K) (pv 0)) (pv 3) (fun _ _ => rfl))) (pa_cons (pv 2) pa_nil)))))))), ?_⟩
  have ht := h.t
  have hli := h.li
  unfold TrS.bars at q
  walk_at "st"
  refine ⟨A, s, rfl, h, ?_⟩
  unfold firstV
  cases hl : s.line with
  | nil =>
    rw [hl] at q
    walk_at "dc"
    exact q H Kp.refl
  | cons f r =>
    rw [hl] at q
    dsimp only at q ⊢
    have hf : f < s.sess.length := lk f (by rw [hl]; exact List.mem_cons_self ..)
    have hy : s.sess[f]? = some s.sess[f] := List.getElem?_eq_getElem hf
    have hgd : s.sess.getD f d0S = s.sess[f] := getD_of hy
    obtain ⟨o1, o2, o3⟩ := ok _ (List.mem_of_getElem? hy)
    walk_at "dc"
    refine c_ite (fun g => ?_) (fun g => ?_)
    · rw [if_pos (by omega)] at q
      walk_at "dc"
      exact q H Kp.refl
    rw [if_neg (by omega), hgd] at q
    walk_at "st"
    cases hp : s.prot with
    | false =>
      rw [hp] at q hli
      walk_at "dc"
      exact q H Kp.refl
    | true =>
      rw [hp] at q hli
      obtain ⟨a, ha, hs⟩ := h.at hy
      obtain ⟨dx, j, g1, g2⟩ := hs.ex
      walk_at "dc"
      first | (refine c_ixL (v := .ref a) (SqL.of h.sl) (atI_nat (j := f) (by rw [List.getElem?_map, ha]; rfl)) ?_; walk_at "st") | skip
      refine ⟨j, t, s.sess[f].jour, fs, rfl, hT, g2, by omega, o2, fun H' e => ?_⟩
      walk_at "st"
      exact q H' e
theorem M_Trunk__is_barred (T : TX K mg) : MethAt P w K mg base CX0 "Trunk" "_is_barred" 13 ["self", "session", "candidate"] (spTrBars K) :=
  meth_of T 91 129 sc_Trunk__is_barred bn_Trunk__is_barred (by walk_at "len") (b_Trunk__is_barred T)
def spTrSubmit (K : PySem.W.Frag) : Sp := fun vs H Q E => ∃ (A : TrA) (s : TrS) (i pos : Int), vs = [.ref A.t, .int i, .int pos] ∧ TrAt K H A s ∧ (∀ y ∈ s.sess, SessOk s y) ∧ s.trees.length ≤ 1000 ∧ s.ents.length ≤ 1000 ∧ s.line.length ≤ 900 ∧ (∀ k ∈ s.line, k < s.sess.length) ∧ 1 ≤ s.trees.length ∧
  ((∀ (k : Nat) y, i = (k : Int) → s.sess[k]? = some y → y.st ≠ "open") → E (.ref (He.ga K "NoSession")) none H) ∧
  (∀ (k : Nat) y, i = (k : Int) → s.sess[k]? = some y → y.st = "open" → (pos ≠ (y.jour.length : Nat) → NoS K H E "WrongPosition") ∧ (pos = (y.jour.length : Nat) →
    (s.trees.length = 201 → NoS K H E "TooManyVersions") ∧ (s.trees.length ≠ 201 → ∀ v H' A', Dt K H' v (s.submit k).1.d → Stp K H A H' A' (s.submit k).2 → Q v H')))
theorem sc_Trunk_submit : FnScope ["self", "session", "position", "found", "change", "candidate", "failed", "name"] ["self", "session", "position"] (defScope s_Trunk_submit) := ⟨rfl, rfl, rfl, by decide +kernel, rfl, by decide +kernel, by decide +kernel⟩
theorem bn_Trunk_submit : BindM "submit" "Trunk.submit" s_Trunk_submit ["self", "session", "position"] := fun _ _ _ _ _ _ us hl => match us, hl with | [_, _, _], _ => rfl
theorem b_Trunk_submit (T : TX K mg) : BodyMX P w K mg base "Trunk" "submit" "Trunk.submit" s_Trunk_submit ["self", "session", "position", "found", "change", "candidate", "failed", "name"] 13 (spTrSubmit K) := by
  intro cdv A outer s H vs Q E h X hr tk
  obtain ⟨A, s, i, pos, rfl, h, ok, tl, el, ll, lk, t1, q1, q2⟩ := h
  have C_Trunk := C_Trunk T; have D_lead := D_lead (P := P) (w := w) (base := base) T; have M_Trunk__check_room := M_Trunk__check_room (P := P) (w := w) (base := base) T; have M_Trunk__count_event := M_Trunk__count_event (P := P) (w := w) (base := base) T; have M_Trunk__is_barred := M_Trunk__is_barred (P := P) (w := w) (base := base) T; have M_Trunk__make := M_Trunk__make (P := P) (w := w) (base := base) T; have M_Trunk__opened := M_Trunk__opened (P := P) (w := w) (base := base) T; have M_Trunk__refuse := M_Trunk__refuse (P := P) (w := w) (base := base) T; have M_Trunk_standing := M_Trunk_standing (P := P) (w := w) (base := base) T
  refine ⟨_, (pss_cons (ps_set (i := 3) sc_Trunk_submit.nd rfl (Or.inl rfl) (pe_methS1 M_Trunk__opened C_Trunk hr (atW tk) (pv 0) (pa_cons (pv 1) pa_nil))) (pss_cons (ps_if (pt_cmpR (op_neU (K := K) hr.units) (pv 2) (pe_callB (cr_len (K := K)) rfl (T.free 2) PySem.boot_len (pa_cons (pe_fldU (K := K) (pv 3)) pa_nil)) (nomark _)) (pss_one (ps_raiseO (K := K) (T.exo 132 133) tk)) pss_nil) (pss_cons (ps_expr (pe_methS0 M_Trunk__check_room C_Trunk hr (atW tk) (pv 0))) (pss_cons (ps_set (i := 4) sc_Trunk_submit.nd rfl (Or.inl rfl) (pe_methS1 M_Trunk_standing C_Trunk hr (atW tk) (pv 0) (pa_cons (pv 1) pa_nil))) (pss_cons (ps_if (pt_cmpR op_isNotU (pv 4) pe_non (nomark _)) (pss_cons (ps_expr (pe_methS1 M_Trunk__refuse C_Trunk hr at0 (pv 0) (pa_cons (pv 1) (pa_cons (pe_ix (ix_U (K := K)) (pv 4) pe_int (fun _ _ => rfl)) pa_nil)))) (pss_one (ps_ret (pe_op (op_addU (K := K)) (pe_tup (pa_cons pe_str pa_nil)) (pv 4))))) pss_nil) (pss_cons (ps_set (i := 5) sc_Trunk_submit.nd rfl (Or.inr rfl) (pe_callX D_lead hr tk (pa_cons (pe_fldU (K := K) (pv 3)) (pa_cons (pe_ix (ix_U (K := K)) (pe_fldU (K := K) (pv 0)) (pe_un un_neg pe_int) (fun _ _ => rfl)) pa_nil)))) (pss_cons (ps_if (pt_tru (K := K) (pe_methS1 M_Trunk__is_barred C_Trunk hr at0 (pv 0) (pa_cons (pv 1) (pa_cons (pv 5) pa_nil)))) (pss_cons (ps_expr (pe_methS0 M_Trunk__count_event C_Trunk hr at0 (pv 0))) (pss_one (ps_ret (pe_tup (pa_cons pe_str pa_nil))))) pss_nil) (pss_cons (ps_setLc (i := 6) (own := [("name", 7)]) rfl sc_Trunk_submit.nd rfl rfl (sw_true rfl rfl rfl (by decide +kernel)) (pi_listU (K := K) (pe_callB (cr_sortedDU rfl) rfl (T.free 30) (by decide +kernel) (pa_cons (pe_fldU (K := K) (pv 0)) pa_nil))) (blkOk_by (N := ["self", "session", "position", "found", "change", "candidate", "failed", "name"]) (sc := defScope s_Trunk_submit) (by decide +kernel)) (fun _ _ _ _ _ => (pg_name (i := 7) sc_Trunk_submit.nd rfl (Or.inl rfl))) (fun _ _ _ _ _ => (pts_one (pt_not (pt_tru (K := K) pe_never)))) (fun _ _ _ _ _ => (pv 7))) (pss_cons (ps_if (pt_tru (K := K) (pv 6)) (pss_one (ps_ret (pe_tup (pa_cons pe_str (pa_cons (pe_callTy (cr_tuple (K := K)) rfl (T.free 28) (by decide +kernel) (pa_cons (pv 6) pa_nil)) pa_nil))))) pss_nil) (pss_cons (ps_fldU (K := K) (pv 3) pe_str) (pss_one (ps_ret (pe_tup (pa_cons pe_str (pa_cons (pe_methS1 M_Trunk__make C_Trunk hr at0 (pv 0) (pa_cons (pe_fldU (K := K) (pv 3)) (pa_cons (pe_fldU (K := K) (pv 3)) (pa_cons (pv 5) (pa_cons (pv 1) pa_nil))))) pa_nil))))))))))))))), ?_⟩
  have ht := h.t
  walk_at "st"
  refine ⟨A, s, i, rfl, h, fun k sa y e hy ho hsa hs => ?_, q1⟩
  subst e
  obtain ⟨qw, qr⟩ := q2 k y rfl hy ho
  have hgd : s.sess.getD k d0S = y := getD_of hy
  obtain ⟨o1, o2, o3⟩ := ok y (List.mem_of_getElem? hy)
  obtain ⟨dx, j, g1, g2⟩ := hs.ex
  obtain ⟨j', js, e0, hjs, hjd⟩ := dt_tup g2
  injection e0 with e0
  subst e0
  have jl : js.length = y.jour.length := by rw [dta_len hjd, List.length_map]
  walk_at "st"
  rw [jl]
  refine c_iteN (fun gp => ?_) (fun gp => ?_)
  · walk_at "st"
    exact qw gp H Kp.refl
  obtain ⟨qf, qd⟩ := qr gp
  walk_at "st"
  refine ⟨A, s, rfl, h, fun g H' e => qf g H' e, fun g => ?_⟩
  have qd := qd g
  unfold TrS.submit at qd
  rw [hgd] at qd
  dsimp only at qd
  walk_at "st"
  refine ⟨A, s, _, rfl, h, ok, t1, fun no => absurd ho (no k y rfl hy), fun k' y' ek hy' _ v H1 e1 hv => ?_⟩
  have ekk : k' = k := by omega
  subst ekk
  rw [hy] at hy'
  obtain rfl := Option.some.inj hy'
  have h1 := h.kp e1
  have ht1 := h1.t
  walk_at "st"
  cases hc : standF s y with
  | some c =>
    obtain ⟨at_, dd, n⟩ := c
    rw [hc] at hv qd
    dsimp only at qd
    obtain ⟨pc, xs, rfl, hp1, hp2⟩ := dt_tup hv
    obtain ⟨u1, us1, rfl, hu1, hp3⟩ := dta_cons hp2
    have eu := dt_int hu1
    subst eu
    walk_at "dc"
    first | (refine c_ixT (v := .int (at_ : Nat)) hp1 (by simp [atI, ixN]) ?_; walk_at "st") | skip
    refine ⟨A, s, k', at_, y, rfl, h1, hy, ll, t1, fun H2 e2 => ?_⟩
    have k2 : Kt H1 H2 := e2.fk.kt
    walk_at "st"
    walk_at "nw"
    intro p3 H3 N3
    walk_at "st"
    refine c_addT (SqT.of N3.at_) (SqT.kp N3.kp (SqT.kt k2 hp1)) (by
      have := dta_len hp2
      rw [sizeLine_eq, this]; simp only [List.length_cons, List.length_nil]; omega) fun p4 H4 e4 hp4 => ?_
    have k4 : Kp [] H2 H4 := N3.kp.trans e4
    walk_at "st"
    refine qd _ H4 A ?_ (((Stp.refl h e1).trans e2 h).trans (Stp.refl e2.at_ k4) h)
    exact .tup hp4 (.cons (.str _) (DtAll.kp (DtAll.kt k2 hp2) k4))
  | none =>
    rw [hc] at hv qd
    dsimp only at qd
    obtain rfl := dt_none hv
    have htr : s.trees[s.trees.length - 1]? = some s.newest := by unfold TrS.newest; rw [List.getD_eq_getElem?_getD, List.getElem?_eq_getElem (by omega)]; rfl
    obtain ⟨ta, hta, hT⟩ := h1.tree htr
    have g3 := e1.at0 g1
    walk_at "dc"
    refine c_ixL (v := .ref ta) (SqL.of h1.tl) (atI_last (by rw [List.length_map, h1.tn, List.getElem?_map, hta]; rfl)) ?_
    walk_at "st"
    refine ⟨j, ta, y.jour, _, rfl, hT, Dt.kp g2 e1, by omega, o2, fun t' H2 e2 hT2 => ?_⟩
    have h2 := h1.kp e2
    have ht2 := h2.t
    walk_at "st"
    refine ⟨A, s, k', t', _, rfl, h2, ok, hT2, lk, fun H3 e3 => ?_⟩
    have h3 := h2.kp e3
    have ht3 := h3.t
    have e13 := (e1.trans e2).trans e3
    cases hb : s.bars k' (leadF s.newest (y.jour.map Prod.fst)) with
    | true =>
      rw [if_pos hb] at qd
      obtain ⟨f, r, hl, hf⟩ : ∃ f r, s.line = f :: r ∧ f < s.sess.length := by
        unfold TrS.bars at hb
        cases hl : s.line with
        | nil => rw [hl] at hb; cases hb
        | cons f r => exact ⟨f, r, rfl, lk f (by rw [hl]; exact List.mem_cons_self ..)⟩
      walk_at "dc"
      refine ⟨A, s, f, r, s.sess[f], rfl, h3, hl, by omega, List.getElem?_eq_getElem hf, fun H4 e4 => ?_⟩
      walk_at "st"
      walk_at "nw"
      intro p5 H5 N5
      exact qd _ H5 A (.tup (SqT.of N5.at_) (.cons (.str _) .nil)) (((Stp.refl h e13).trans e4 h).trans (Stp.refl e4.at_ N5.kp) h)
    | false =>
      rw [if_neg (by rw [hb]; exact Bool.false_ne_true)] at qd
      have hck3 := h3.ck
      have g33 := (e2.trans e3).at0 g3
      have hy3 := hy
      walk_at "dc"
      refine ⟨A.ck, [], [], rfl, .of hck3, rfl, by decide, fun ys p hp _ hfr => ?_⟩
      obtain rfl : ys = [] := hp.eq_nil
      have N4 : New H3 p (.lst (([] : List Str).map V.str)) (upd H3 p (.lst (([] : List Str).map V.str))) := ⟨hfr, rfl⟩
      generalize upd H3 p (.lst (([] : List Str).map V.str)) = H4 at N4 ⊢
      walk_at "st"
      first | refine ⟨p, rfl, ⟨_, SqL.of N4.at_⟩, ?_⟩ | skip
      refine lcQ_fil (itn_l (ys := ([] : List Str)) (u := V.str)) (fun _ => V.non) (fun _ => false) (by decide) (fun H' e => SqL.kp e (SqL.of N4.at_)) (fun i y H' H'' R S hi e z k1 k2 => absurd hi (Nat.not_lt_zero i)) (fun D H5 hD e5 hacc => ?_)
      have k5 : Kp [] H3 H5 := N4.kp.trans e5
      have h5 := h3.kp k5
      have ht5 := h5.t
      have g55 := k5.at0 g33
      walk_at "st"
      refine c_truL (SqL.of hacc) ?_
      walk_at "dc"
      have e6 := h5.sset hy hsa (x' := { y with st := "accepted" }) (dx := dx) (Dt.kp (Dt.kp g2 e1) ((e2.trans e3).trans k5))
      have g6 : (upd H5 sa (HO.ins (He.ga K "Session") dx (seF (.str y.nm) (.int (y.base : Nat)) (.ref j) (.int (y.refs : Nat)) (.str "accepted")))) sa = some (HO.ins (He.ga K "Session") dx (seF (.str y.nm) (.int (y.base : Nat)) (.ref j) (.int (y.refs : Nat)) (.str "accepted"))) := upd_same
      dsimp only at e6
      generalize (upd H5 sa (HO.ins (He.ga K "Session") dx (seF (.str y.nm) (.int (y.base : Nat)) (.ref j) (.int (y.refs : Nat)) (.str "accepted")))) = H6 at e6 g6 ⊢
      have h6 := e6.at_
      have ht6 := h6.t
      walk_at "st"
      refine ⟨A, _, y.nm, j, t', y.jour, leadF s.newest (y.jour.map Prod.fst), some k', rfl, h6, Dt.kt e6.fk.kt (Dt.kp (Dt.kp g2 e1) ((e2.trans e3).trans k5)), (hT2.kp (e3.trans k5)).fk e6.fk, tl, el, by show s.line.length ≤ 1000; omega, by
        intro k hk
        show k < (s.sess.set k' _).length
        rw [List.length_set]
        exact lk k hk, t1, fun H7 A7 e7 => ?_⟩
      walk_at "st"
      walk_at "nw"
      intro p8 H8 N8
      have kk : Kp [] H H5 := e13.trans k5
      exact qd _ H8 A7 (.tup (SqT.of N8.at_) (.cons (.str _) (.cons (.int _) .nil))) ((((Stp.refl h kk).trans e6 h).trans e7 h).trans (Stp.refl e7.at_ N8.kp) h)
theorem M_Trunk_submit (T : TX K mg) : MethAt P w K mg base (L2.CX P w) "Trunk" "submit" 14 ["self", "session", "position"] (spTrSubmit K) :=
  meth_ofX T 93 134 sc_Trunk_submit bn_Trunk_submit (by walk_at "len") (b_Trunk_submit T)
end
end K36



namespace K36
open PySem L2 Sa
local macro_rules | `(tactic| walk_at "s1") => `(tactic| first | (with_reducible apply c_dgetK))
local macro_rules | `(tactic| walk_at "s1") => `(tactic| (with_reducible apply c_raiseO))
local macro_rules | `(tactic| walk_at "s1") => `(tactic| first | (with_reducible apply c_un) | (with_reducible apply c_negI))
local macro_rules | `(tactic| walk_at "s1") => `(tactic| first | ((with_reducible apply se_g1 (by assumption)); (· walk_at "lk")) | ((with_reducible apply se_p1 (by assumption)); (· walk_at "lk")) | ((with_reducible apply se_g2 (by assumption)); (· walk_at "lk")) | ((with_reducible apply se_p2 (by assumption)); (· walk_at "lk")) | ((with_reducible apply se_g3 (by assumption)); (· walk_at "lk")) | ((with_reducible apply se_p3 (by assumption)); (· walk_at "lk")) | ((with_reducible apply se_g4 (by assumption)); (· walk_at "lk")) | ((with_reducible apply se_p4 (by assumption)); (· walk_at "lk")) | ((with_reducible apply se_g5 (by assumption)); (· walk_at "lk")) | ((with_reducible apply se_p5 (by assumption)); (· walk_at "lk")) | ((with_reducible apply se_r); (· walk_at "lk"); (· decide +kernel)))
local macro_rules | `(tactic| walk_at "s1") => `(tactic| first | ((with_reducible apply li_g1 (by assumption)); (· walk_at "lk")) | ((with_reducible apply li_p1 (by assumption)); (· walk_at "lk")) | ((with_reducible apply li_g2 (by assumption)); (· walk_at "lk")) | ((with_reducible apply li_p2 (by assumption)); (· walk_at "lk")) | ((with_reducible apply li_g3 (by assumption)); (· walk_at "lk")) | ((with_reducible apply li_p3 (by assumption)); (· walk_at "lk")) | ((with_reducible apply li_r); (· walk_at "lk"); (· decide +kernel)))
local macro_rules | `(tactic| walk_at "s1") => `(tactic| first | ((with_reducible apply tr_g1 (by assumption)); (· walk_at "lk")) | ((with_reducible apply tr_p1 (by assumption)); (· walk_at "lk")) | ((with_reducible apply tr_g2 (by assumption)); (· walk_at "lk")) | ((with_reducible apply tr_p2 (by assumption)); (· walk_at "lk")) | ((with_reducible apply tr_g3 (by assumption)); (· walk_at "lk")) | ((with_reducible apply tr_p3 (by assumption)); (· walk_at "lk")) | ((with_reducible apply tr_g4 (by assumption)); (· walk_at "lk")) | ((with_reducible apply tr_p4 (by assumption)); (· walk_at "lk")) | ((with_reducible apply tr_g5 (by assumption)); (· walk_at "lk")) | ((with_reducible apply tr_p5 (by assumption)); (· walk_at "lk")) | ((with_reducible apply tr_g6 (by assumption)); (· walk_at "lk")) | ((with_reducible apply tr_p6 (by assumption)); (· walk_at "lk")) | ((with_reducible apply tr_g7 (by assumption)); (· walk_at "lk")) | ((with_reducible apply tr_p7 (by assumption)); (· walk_at "lk")) | ((with_reducible apply tr_g8 (by assumption)); (· walk_at "lk")) | ((with_reducible apply tr_p8 (by assumption)); (· walk_at "lk")) | ((with_reducible apply tr_g9 (by assumption)); (· walk_at "lk")) | ((with_reducible apply tr_p9 (by assumption)); (· walk_at "lk")) | ((with_reducible apply tr_r); (· walk_at "lk"); (· decide +kernel)))
set_option pp.maxSteps 1500
-- 172 173 174 175
theorem run_fit2 {fs : List File} (G : GoodP fs) {xs : List Action} (h : ∀ x ∈ xs, x.bad = none) : ∀ e ∈ (runF fs xs).1, Fit 3 14000 e.2 := by
  have key : ∀ (n : Nat), n ≤ xs.length → ∀ e ∈ (runF fs (xs.take n)).1, Fit 3 14000 e.2 := by
    intro n
    induction n with
    | zero => intro _ e he; cases he
    | succ n ih =>
      intro hn e he
      obtain ⟨x, hx⟩ : ∃ x, xs[n]? = some x := ⟨_, List.getElem?_eq_getElem (by omega)⟩
      rw [take_succ' hx, run_snoc] at he
      rcases List.mem_append.mp (show e ∈ (runF fs (xs.take n)).1 ++ [_] from he) with he | he
      · exact ih (by omega) e he
      · rw [List.mem_singleton.mp he]
        exact fit_act2 (runF_ok G fun z hz => h z (List.mem_of_mem_take hz)).2 x
  have := key xs.length (Nat.le_refl _)
  rw [List.take_length] at this
  exact this
/-- a trunk without sessions -/
abbrev st36 (p a : Nat) (T : List (List File)) (E : List (Str × List Entry)) : TrS := ⟨p, a, T, E, [], [], false, 0, 0⟩
theorem make36 {p a : Nat} {T : List (List File)} {E : List (Str × List Entry)} {nm : Str} {js : List Entry} {fs : List File} : (st36 p a T E).make nm js fs none = st36 p a (T ++ [fs]) (E ++ [(nm, js)]) := rfl
theorem app36 {p a : Nat} {T : List (List File)} {E : List (Str × List Entry)} {nm : Str} {xs : List Action} : (st36 p a T E).app nm xs = st36 p a (T ++ [(runF (st36 p a T E).newest xs).2]) (E ++ [(nm, (runF (st36 p a T E).newest xs).1)]) := rfl
structure Ok36 (T : List (List File)) (E : List (Str × List Entry)) (n : Nat) : Prop where
  tl : T.length = n + 1
  el : E.length = n
  gd : ∀ fs ∈ T, GoodP fs
  eo : ∀ e ∈ E, okS e.1 = true ∧ e.1.length ≤ 8 ∧ e.2.length ≤ 40 ∧ ∀ x ∈ e.2, EntOk x ∧ Fit 3 14000 x.2
section
variable {α : Type} {g : TG} {tt : TT} {te : TE} {vs : List Nat} {σ : St} {Q : VK} {H : Hp} {b d : Addr} {lo : Int} {n : Nat}
theorem lcR_drawK (f : α → V) (Pa : α → Hp → Prop) (hK : ∀ x H H', Kt H H' → Pa x H → Pa x H') (B : Bx H b d) (hz : n ≤ 16777216)
    (hs : ∀ i H' R S, i < n → Kp [b] H H' → Bx H' b d → (∀ x H4, Pa x H4 → Kp [b] H' H4 → Bx H4 b d → R (f x) H4) → LcM g tt te vs σ R S (.int (lo + (i : Nat))) H')
    (hd : ∀ Dl H' (as : List α), H Dl = none → as.length = n → (∀ x ∈ as, Pa x H') → Kp [b] H H' → Bx H' b d → H' Dl = some (.lst (as.map f)) → Q (.ref Dl) H') : LcJ (Itr lo n) g tt te vs σ H Q := by
  refine lcR (fun Dl i acc H' => Kp [b] H H' ∧ Bx H' b d ∧ ∃ as : List α, acc = as.map f ∧ as.length = i ∧ ∀ x ∈ as, Pa x H') (fun Dl hD => ⟨Kp.new hD, B.new hD, [], rfl, rfl, by simp⟩) ?_ ?_
  · rintro Dl i acc H' hD hi hacc hl ⟨e, B1, as, rfl, hlen, hP⟩
    have nD := B.ne_new hD
    refine hs i H' _ _ hi e B1 (fun x H4 hx e4 B4 => ?_)
    have hacc4 := e4.at1 nD.1 hacc
    have kt : Kt H4 (upd H4 Dl (.lst (as.map f ++ [f x]))) := Kt.upd1 (NoT.lst hacc4)
    refine lc_push hacc4 hl (by omega) ⟨(e.trans e4).fresh_mut hD, B4.other nD.1 nD.2, as ++ [x], by rw [List.map_append]; rfl, by rw [List.length_append, hlen]; rfl, fun y hy => ?_⟩
    rcases List.mem_append.mp hy with h | h
    · exact hK y _ _ ((B1.kt e4).trans kt) (hP y h)
    · rw [List.mem_singleton.mp h]; exact hK x _ _ kt hx
  · rintro Dl acc H' hD hacc hl ⟨e, B1, as, rfl, hlen, hP⟩
    exact hd Dl H' as hD hlen hP e B1 hacc
end
section
variable {P : Program} {w : World} {K : PySem.W.Frag} {mg : Str → Option Value} {base : Heap}
theorem spTrApp.mono {vs : List V} {H : Hp} {Q Q' : VK} {E E' : XK} (h : spTrApp K vs H Q E) (hq : ∀ v H', Q v H' → Q' v H') (he : ∀ c d H', E c d H' → E' c d H') : spTrApp K vs H Q' E' := by
  obtain ⟨A, s, nm, a, xs, e, h1, h2, h3, h4, h5, h6, h7, h8, h9, h10, q1, q2⟩ := h
  refine ⟨A, s, nm, a, xs, e, h1, h2, h3, h4, h5, h6, h7, h8, h9, h10, fun g d H' k x => he _ _ _ (q1 g d H' k x), fun g => ?_⟩
  obtain ⟨r1, r2⟩ := q2 g
  refine ⟨fun z hz d H' k x => he _ _ _ (r1 z hz d H' k x), fun g => ?_⟩
  obtain ⟨r3, r4⟩ := r2 g
  exact ⟨fun g H' k => he _ _ _ (r3 g H' k), fun g H' A' st => hq _ _ (r4 g H' A' st)⟩
theorem c_newTrX {H : Hp} {tr : Addr} {pat all : Int} {fs : List File} {Q : VK} {E : XK} (hT : TreeG K H tr fs) (q1 : ¬ (1 ≤ pat ∧ pat ≤ 9) → RaisesE K H E "patience") (q2 : (1 ≤ pat ∧ pat ≤ 9) → ¬ (1 ≤ all ∧ all ≤ 9) → RaisesE K H E "allowance")
    (q3 : (1 ≤ pat ∧ pat ≤ 9) → (1 ≤ all ∧ all ≤ 9) → ∀ A H', Kp [] H H' → TrAt K H' A (newTr pat.toNat all.toNat fs) → (∀ a ∈ own A, H a = none) → Q (.ref A.t) H') : NewK K "Trunk" (spTrInit K) [.ref tr, .int pat, .int all] H Q E := by
  intro x dx h1 h2 h3
  have k1 : Kp [] H (upd H dx (.own x)) := Kp.new h2
  have hx : upd H dx (.own x) x = none := by rw [upd_ne (Ne.symm h3)]; exact h1
  have k2 : Kp [] H (upd (upd H dx (.own x)) x (.ins (He.ga K "Trunk") dx [])) := k1.trans (Kp.new hx)
  refine ⟨x, dx, tr, pat, all, fs, rfl, upd_same, hT.kp k2, fun z d H' k y => q1 z d H' (k2.trans k) y, fun z1 z2 d H' k y => q2 z1 z2 d H' (k2.trans k) y, fun z1 z2 A H' eA e at_ ow => ⟨rfl, ?_⟩⟩
  have g := q3 z1 z2 A H' (Kp.drop_fresh (k2.mono.trans e) h1) at_ fun a hm => by
    rcases ow a hm with z | z
    · rw [z]; exact h1
    · exact free0 k2 z
  rw [eA] at g
  exact g
theorem newG36 {H : Hp} {t : Addr} {fs : List File} (G : GoodP fs) (ht : TreeAt K H t (sortF (sortF fs))) : TreeG K H t (sortF fs) := by
  have := newT ht G.sort
  rw [sortF_of_asc G.sort.once (sortF_asc fs)] at this
  exact this
theorem gnil : GoodP ([] : List File) := ⟨by simp, .nil, by simp, by simp, by simp⟩
theorem rows0 (T : TX K mg) (H' : Hp) : RowsAt K H' (He.dflAt ("Tree", some "__init__") 0 K) [] := by
  obtain ⟨p, xs, e0, h1, h2⟩ := dt_tup (Dt.of (dflTree T H') rfl)
  injection e0 with e0
  rw [dta_nil h2, ← e0] at h1
  exact ⟨[], .inr h1, rfl, by simp⟩
theorem c_tree0 (T : TX K mg) {H : Hp} {Q : VK} {E : XK} (q : ∀ t H', Kp [] H H' → TreeG K H' t [] → Q (.ref t) H') : NewK K "Tree" (spTreeInit K) [.ref (He.dflAt ("Tree", some "__init__") 0 K)] H Q E :=
  c_newTree (rows0 T H) (good_sane (goodF_iff.mpr gnil)) (fun _ t H8 e8 ht => q t H8 e8 (newT ht gnil)) (fun g => noE (K := K) gnil g)
def madeS (p a : Int) : Str := if 1 ≤ p ∧ p ≤ 9 then (if 1 ≤ a ∧ a ≤ 9 then "" else "allowance") else "patience"
def spMadeTr (K : PySem.W.Frag) : Sp := fun vs H Q _ => ∃ (p a : Int), vs = [.int p, .int a] ∧ ∀ H', Kp [] H H' → Q (.str (madeS p a)) H'
theorem sc__law_made_trunk : FnScope ["_law_patience", "_law_allowance", "e"] ["_law_patience", "_law_allowance"] (defScope s__law_made_trunk) := ⟨rfl, rfl, rfl, by decide +kernel, rfl, by decide +kernel, by decide +kernel⟩
theorem bn__law_made_trunk : BindN "_law_made_trunk" s__law_made_trunk ["_law_patience", "_law_allowance"] := fun _ _ _ _ _ _ us hl => match us, hl with | [_, _], _ => rfl
theorem b__law_made_trunk (T : TX K mg) : Body P w K mg base "_law_made_trunk" s__law_made_trunk ["_law_patience", "_law_allowance", "e"] 7 (spMadeTr K) := by
  intro cdv A outer s H vs Q E h X hr
  obtain ⟨p, a, rfl, q⟩ := h
  have C_Tree := C_Tree T; have C_Trunk := C_Trunk T; have E_OutOfRange := E_OutOfRange (P := P) (w := w) (base := base) T; have M0_Tree___init__ := M0_Tree___init__ (P := P) (w := w) (base := base) T; have M_Trunk___init__ := M_Trunk___init__ (P := P) (w := w) (base := base) T; have Mk_Tree := Mk_Tree T; have Mk_Trunk := Mk_Trunk T
  refine ⟨_, (pss_cons (ps_try_as (i := 2) rfl rfl sc__law_made_trunk.nd rfl rfl (names_glo (T.glo 24)) takes_never (fun W pn xe tk1 po1 => (pss_one (ps_expr (pe_newS M_Trunk___init__ Mk_Trunk C_Trunk hr (atW tk1) (pa_cons (pe_newD M0_Tree___init__ Mk_Tree C_Tree hr (atW tk1)) (pa_cons (pv 0) (pa_cons (pv 1) pa_nil))))))) (fun a oe cls d pn hz hf => (pss_one (ps_ret (pe_xf E_OutOfRange.xf E_OutOfRange.no hz hf (pv 2)))))) (pss_one (ps_ret pe_str))), ?_⟩
  unfold madeS at q
  walk_at "st"
  refine c_tree0 T fun t H1 e1 hT => ?_
  walk_at "st"
  refine c_newTrX hT (fun g d H2 e2 hd => ?_) (fun g1 g2 d H2 e2 hd => ?_) (fun g1 g2 A H2 e2 tr fr => ?_)
  · rw [if_neg g] at q
    refine c_caught (He.exm_ok (T.fact 172)) fun ea hea => ?_
    walk_at "st"
    refine ⟨rfl, rfl, d, _, _, rfl, hd, rfl, ?_⟩
    walk_at "st"
    exact q H2 (e1.trans e2)
  · rw [if_pos g1, if_neg g2] at q
    refine c_caught (He.exm_ok (T.fact 172)) fun ea hea => ?_
    walk_at "st"
    refine ⟨rfl, rfl, d, _, _, rfl, hd, rfl, ?_⟩
    walk_at "st"
    exact q H2 (e1.trans e2)
  · rw [if_pos g1, if_pos g2] at q
    walk_at "st"
    exact q H2 (e1.trans e2)
theorem D__law_made_trunk (T : TX K mg) : DefAt P w K mg base CX0 "_law_made_trunk" 8 ["_law_patience", "_law_allowance"] (spMadeTr K) :=
  def_of T 52 79 sc__law_made_trunk bn__law_made_trunk (by walk_at "len") (b__law_made_trunk T)
def Refu (K : PySem.W.Frag) (H : Hp) (Q : VK) (nm : Str) : Prop := ∀ p H', Kp [] H H' → H' p = some (.tup [.str "refused", .str nm]) → Q (.ref p) H'
def rA (K : PySem.W.Frag) (Q : VK) : XK := fun c d H => (c = .ref (He.ga K "OutOfRange") ∧ ∃ a nm, d = some a ∧ H a = some (.xd [("name", .str nm)]) ∧ Refu K H Q nm) ∨ (c = .ref (He.ga K "TooManyVersions") ∧ d = none ∧ Refu K H Q "many")
def spLApp (K : PySem.W.Frag) : Sp := fun vs H Q _ => ∃ (A : TrA) (s : TrS) (x y : V), vs = [.ref A.t, x, y] ∧ TrAt K H A s ∧ spTrApp K [.ref A.t, x, y] H Q (rA K Q)
theorem sc__law_append : FnScope ["_law_trunk", "_law_name", "_law_actions", "e"] ["_law_trunk", "_law_name", "_law_actions"] (defScope s__law_append) := ⟨rfl, rfl, rfl, by decide +kernel, rfl, by decide +kernel, by decide +kernel⟩
theorem bn__law_append : BindN "_law_append" s__law_append ["_law_trunk", "_law_name", "_law_actions"] := fun _ _ _ _ _ _ us hl => match us, hl with | [_, _, _], _ => rfl
theorem b__law_append (T : TX K mg) : Body P w K mg base "_law_append" s__law_append ["_law_trunk", "_law_name", "_law_actions", "e"] 12 (spLApp K) := by
  intro cdv A outer s H vs Q E h X hr
  obtain ⟨A, s, x, y, rfl, h0, h⟩ := h
  have C_Trunk := C_Trunk T; have E_OutOfRange := E_OutOfRange (P := P) (w := w) (base := base) T; have M_Trunk_append := M_Trunk_append (P := P) (w := w) (base := base) T
  refine ⟨_, (pss_one (ps_tryN rfl rfl sc__law_append.nd takes_never (fun W pn xe tk1 po1 => (pss_one (ps_ret (pe_methS1 M_Trunk_append C_Trunk hr (atW tk1) (pv 0) (pa_cons (pv 1) (pa_cons (pv 2) pa_nil)))))) (ClsOk.named (i := 3) rfl rfl (names_glo (T.glo 24)) (fun a oe cls d pn hz hf => (pss_one (ps_ret (pe_tup (pa_cons pe_str (pa_cons (pe_xf E_OutOfRange.xf E_OutOfRange.no hz hf (pv 3)) pa_nil)))))) (ClsOk.bare (names_glo (T.glo 80)) (fun a oe cls d pn hz hf => (pss_one (ps_ret (pe_tup (pa_cons pe_str (pa_cons pe_str pa_nil)))))) ClsOk.nil)))), ?_⟩
  have ht := h0.t
  walk_at "st"
  refine spTrApp.mono h (fun v H' q => ?_) (fun c d H' q => ?_)
  · first | exact q | (walk_at "st"; exact q)
  rcases q with ⟨rfl, a, nm, rfl, ha, q⟩ | ⟨rfl, rfl, q⟩
  · refine c_hit (He.exm_ok (T.fact 172)) fun ea hea => ?_
    walk_at "st"
    refine ⟨rfl, rfl, a, _, _, rfl, ha, rfl, ?_⟩
    walk_at "st"
    walk_at "nw"
    intro p2 H2 N2
    exact q p2 H2 N2.kp N2.at_
  · refine c_miss (He.exm_ok (T.fact 173)) ?_
    refine c_hit (He.exm_ok (T.fact 174)) fun ea hea => ?_
    walk_at "st"
    walk_at "nw"
    intro p2 H2 N2
    exact q p2 H2 N2.kp N2.at_
theorem D__law_append (T : TX K mg) : DefAt P w K mg base CX0 "_law_append" 13 ["_law_trunk", "_law_name", "_law_actions"] (spLApp K) :=
  def_of T 53 81 sc__law_append bn__law_append (by walk_at "len") (b__law_append T)
/-- a submission when there is no more room -/
def spLSub (K : PySem.W.Frag) : Sp := fun vs H Q _ => ∃ (A : TrA) (s : TrS) (k : Nat) (y : Sess), vs = [.ref A.t, .int (k : Nat), .int (y.jour.length : Nat)] ∧ TrAt K H A s ∧ (∀ y ∈ s.sess, SessOk s y) ∧ s.trees.length = 201 ∧ s.ents.length ≤ 1000 ∧ s.line.length ≤ 900 ∧ (∀ k ∈ s.line, k < s.sess.length) ∧ s.sess[k]? = some y ∧ y.st = "open" ∧ Refu K H Q "many"
theorem sc__law_submit : FnScope ["_law_trunk", "_law_session", "_law_position"] ["_law_trunk", "_law_session", "_law_position"] (defScope s__law_submit) := ⟨rfl, rfl, rfl, by decide +kernel, rfl, by decide +kernel, by decide +kernel⟩
theorem bn__law_submit : BindN "_law_submit" s__law_submit ["_law_trunk", "_law_session", "_law_position"] := fun _ _ _ _ _ _ us hl => match us, hl with | [_, _, _], _ => rfl
theorem b__law_submit (T : TX K mg) : Body P w K mg base "_law_submit" s__law_submit ["_law_trunk", "_law_session", "_law_position"] 14 (spLSub K) := by
  intro cdv A outer s H vs Q E h X hr
  obtain ⟨A, s, k, y, rfl, h, ok, tl, el, ll, lk, hy, ho, q⟩ := h
  have C_Trunk := C_Trunk T; have M_Trunk_submit := M_Trunk_submit (P := P) (w := w) (base := base) T
  refine ⟨_, (pss_one (ps_try_many rfl rfl takes_never (fun W pn xe tk1 po1 => (pss_one (ps_ret (pe_methS1 M_Trunk_submit C_Trunk hr (atW tk1) (pv 0) (pa_cons (pv 1) (pa_cons (pv 2) pa_nil)))))) (HdsOk.cons (names_glo (T.glo 80)) (fun a oe cls d pn hz hf => (pss_one (ps_ret (pe_tup (pa_cons pe_str (pa_cons pe_str pa_nil)))))) HdsOk.nil))), ?_⟩
  have ht := h.t
  walk_at "st"
  refine ⟨A, s, _, _, rfl, h, ok, by omega, el, ll, lk, by omega, fun no => absurd ho (no k y rfl hy), fun k' y' e hy' _ => ⟨fun g => ?_, fun _ => ⟨fun _ H1 e1 => ?_, fun g => absurd tl g⟩⟩⟩
  · obtain rfl : k' = k := by omega
    rw [hy] at hy'
    obtain rfl := Option.some.inj hy'
    exact absurd rfl g
  · refine ⟨true, He.exm_ok (T.fact 174), fun _ ea hea => ?_, fun z => nomatch z⟩
    walk_at "st"
    walk_at "nw"
    intro p2 H2 N2
    exact q p2 H2 (e1.trans N2.kp) N2.at_
theorem D__law_submit (T : TX K mg) : DefAt P w K mg base CX0 "_law_submit" 15 ["_law_trunk", "_law_session", "_law_position"] (spLSub K) :=
  def_of T 54 82 sc__law_submit bn__law_submit (by walk_at "len") (b__law_submit T)
end
end K36


namespace K36
open PySem L2 Sa
local macro_rules | `(tactic| walk_at "s1") => `(tactic| first | (with_reducible apply c_dgetK))
local macro_rules | `(tactic| walk_at "s1") => `(tactic| (with_reducible apply c_raiseO))
local macro_rules | `(tactic| walk_at "s1") => `(tactic| first | (with_reducible apply c_un) | (with_reducible apply c_negI))
local macro_rules | `(tactic| walk_at "s1") => `(tactic| first | ((with_reducible apply se_g1 (by assumption)); (· walk_at "lk")) | ((with_reducible apply se_p1 (by assumption)); (· walk_at "lk")) | ((with_reducible apply se_g2 (by assumption)); (· walk_at "lk")) | ((with_reducible apply se_p2 (by assumption)); (· walk_at "lk")) | ((with_reducible apply se_g3 (by assumption)); (· walk_at "lk")) | ((with_reducible apply se_p3 (by assumption)); (· walk_at "lk")) | ((with_reducible apply se_g4 (by assumption)); (· walk_at "lk")) | ((with_reducible apply se_p4 (by assumption)); (· walk_at "lk")) | ((with_reducible apply se_g5 (by assumption)); (· walk_at "lk")) | ((with_reducible apply se_p5 (by assumption)); (· walk_at "lk")) | ((with_reducible apply se_r); (· walk_at "lk"); (· decide +kernel)))
local macro_rules | `(tactic| walk_at "s1") => `(tactic| first | ((with_reducible apply li_g1 (by assumption)); (· walk_at "lk")) | ((with_reducible apply li_p1 (by assumption)); (· walk_at "lk")) | ((with_reducible apply li_g2 (by assumption)); (· walk_at "lk")) | ((with_reducible apply li_p2 (by assumption)); (· walk_at "lk")) | ((with_reducible apply li_g3 (by assumption)); (· walk_at "lk")) | ((with_reducible apply li_p3 (by assumption)); (· walk_at "lk")) | ((with_reducible apply li_r); (· walk_at "lk"); (· decide +kernel)))
local macro_rules | `(tactic| walk_at "s1") => `(tactic| first | ((with_reducible apply tr_g1 (by assumption)); (· walk_at "lk")) | ((with_reducible apply tr_p1 (by assumption)); (· walk_at "lk")) | ((with_reducible apply tr_g2 (by assumption)); (· walk_at "lk")) | ((with_reducible apply tr_p2 (by assumption)); (· walk_at "lk")) | ((with_reducible apply tr_g3 (by assumption)); (· walk_at "lk")) | ((with_reducible apply tr_p3 (by assumption)); (· walk_at "lk")) | ((with_reducible apply tr_g4 (by assumption)); (· walk_at "lk")) | ((with_reducible apply tr_p4 (by assumption)); (· walk_at "lk")) | ((with_reducible apply tr_g5 (by assumption)); (· walk_at "lk")) | ((with_reducible apply tr_p5 (by assumption)); (· walk_at "lk")) | ((with_reducible apply tr_g6 (by assumption)); (· walk_at "lk")) | ((with_reducible apply tr_p6 (by assumption)); (· walk_at "lk")) | ((with_reducible apply tr_g7 (by assumption)); (· walk_at "lk")) | ((with_reducible apply tr_p7 (by assumption)); (· walk_at "lk")) | ((with_reducible apply tr_g8 (by assumption)); (· walk_at "lk")) | ((with_reducible apply tr_p8 (by assumption)); (· walk_at "lk")) | ((with_reducible apply tr_g9 (by assumption)); (· walk_at "lk")) | ((with_reducible apply tr_p9 (by assumption)); (· walk_at "lk")) | ((with_reducible apply tr_r); (· walk_at "lk"); (· decide +kernel)))
set_option pp.maxSteps 1500
section
variable {P : Program} {w : World} {K : PySem.W.Frag} {mg : Str → Option Value} {base : Heap}
/-- what is told of a version: its rows of files, or its entry -/
def rV (K : PySem.W.Frag) (H : Hp) (Q : VK) : XK := fun c d H2 => c = .ref (He.ga K "OutOfRange") ∧ ∃ a nm, d = some a ∧ H2 a = some (.xd [("name", .str nm)]) ∧ Refu K H2 Q nm
def spLVer (K : PySem.W.Frag) : Sp := fun vs H Q _ => ∃ (A : TrA) (s : TrS) (wh i : Int), vs = [.ref A.t, .int wh, .int i] ∧ TrAt K H A s ∧ s.ents.length + 1 = s.trees.length ∧
  ((wh = 0 ∧ (∀ (k : Nat) fs, i = (k : Int) → s.trees[k]? = some fs → ∀ v H', Kp [] H H' → Dt K H' v (rowsOfD fs) → Q v H') ∧ (¬ (0 ≤ i ∧ i < s.trees.length) → Refu K H Q "version")) ∨
   (wh = 1 ∧ (∀ (k : Nat) e, i = ((k + 1 : Nat) : Int) → s.ents[k]? = some e → ∀ v H', Kp [] H H' → Dt K H' v (entsD e) → Q v H') ∧ (¬ (1 ≤ i ∧ i < s.trees.length) → Refu K H Q "version")))
theorem sc__law_version : FnScope ["_law_trunk", "_law_which", "_law_version_here", "e"] ["_law_trunk", "_law_which", "_law_version_here"] (defScope s__law_version) := ⟨rfl, rfl, rfl, by decide +kernel, rfl, by decide +kernel, by decide +kernel⟩
theorem bn__law_version : BindN "_law_version" s__law_version ["_law_trunk", "_law_which", "_law_version_here"] := fun _ _ _ _ _ _ us hl => match us, hl with | [_, _, _], _ => rfl
theorem b__law_version (T : TX K mg) : Body P w K mg base "_law_version" s__law_version ["_law_trunk", "_law_which", "_law_version_here", "e"] 4 (spLVer K) := by
  intro cdv A outer s H vs Q E h X hr
  obtain ⟨A, s, wh, i, rfl, h, hel, hh⟩ := h
  have C_Tree := C_Tree T; have C_Trunk := C_Trunk T; have E_OutOfRange := E_OutOfRange (P := P) (w := w) (base := base) T; have M_Tree_files := M_Tree_files (P := P) (w := w) (base := base) T; have M_Trunk_entry := M_Trunk_entry (P := P) (w := w) (base := base) T; have M_Trunk_tree := M_Trunk_tree (P := P) (w := w) (base := base) T
  refine ⟨_, (pss_one (ps_try_as (i := 3) rfl rfl sc__law_version.nd rfl rfl (names_glo (T.glo 24)) takes_never (fun W pn xe tk1 po1 => (pss_cons (ps_if (pt_cmpR (op_eqU (K := K) hr.units) (pv 1) pe_int (nomark _)) (pss_one (ps_ret (pe_methS0 M_Tree_files C_Tree hr at0 (pe_methS1 M_Trunk_tree C_Trunk hr (atW tk1) (pv 0) (pa_cons (pv 2) pa_nil))))) pss_nil) (pss_one (ps_ret (pe_methS1 M_Trunk_entry C_Trunk hr (atW tk1) (pv 0) (pa_cons (pv 2) pa_nil)))))) (fun a oe cls d pn hz hf => (pss_one (ps_ret (pe_tup (pa_cons pe_str (pa_cons (pe_xf E_OutOfRange.xf E_OutOfRange.no hz hf (pv 3)) pa_nil)))))))), ?_⟩
  have ht := h.t
  rcases hh with ⟨rfl, q1, q2⟩ | ⟨rfl, q1, q2⟩
  · walk_at "dc"
    refine ⟨A, s, i, rfl, h, fun k a fs e hk hT => ?_, fun g d H1 e1 hd => ?_⟩
    · obtain ⟨⟨tdx, tdd, tls, tg1, _⟩, tgg⟩ := id hT
      have tgood := goodF_iff.mp tgg
      walk_at "st"
      first | (refine c_recv tg1 rfl ?_; walk_at "st") | skip
      refine ⟨a, _, rfl, hT.1, by have := tgood.len; omega, fun p2 H2 rs2 e2 hp2 hrs2 hok2 => ?_⟩
      walk_at "st"
      exact q1 k fs e hk _ H2 e2 (.tup hp2 (tr_rows_dt hrs2 hok2))
    · refine c_caught (He.exm_ok (T.fact 172)) fun ea hea => ?_
      walk_at "st"
      refine ⟨rfl, rfl, d, _, _, rfl, hd, rfl, ?_⟩
      walk_at "st"
      walk_at "nw"
      intro p2 H2 N2
      exact q2 g p2 H2 (e1.trans N2.kp) N2.at_
  · walk_at "dc"
    refine ⟨A, s, i, rfl, h, hel, fun k v e ek hk hv => ?_, fun g d H1 e1 hd => ?_⟩
    · first | (walk_at "st"; exact q1 k e ek hk v H Kp.refl hv) | exact q1 k e ek hk v H Kp.refl hv
    · refine c_caught (He.exm_ok (T.fact 172)) fun ea hea => ?_
      walk_at "st"
      refine ⟨rfl, rfl, d, _, _, rfl, hd, rfl, ?_⟩
      walk_at "st"
      walk_at "nw"
      intro p2 H2 N2
      exact q2 g p2 H2 (e1.trans N2.kp) N2.at_
theorem D__law_version (T : TX K mg) : DefAt P w K mg base CX0 "_law_version" 5 ["_law_trunk", "_law_which", "_law_version_here"] (spLVer K) :=
  def_of T 55 83 sc__law_version bn__law_version (by walk_at "len") (b__law_version T)
/-- a list of drawn actions -/
theorem acts_of {H : Hp} {D : Addr} {as : List (Addr × Action)} (hD : H D = some (.lst (as.map fun x => V.ref x.1))) (h : ∀ x ∈ as, ActAt K H x.1 x.2) : ActsL K H D (as.map Prod.snd) :=
  ⟨as.map Prod.fst, SqL.of (by rw [hD, List.map_map]; rfl), by rw [List.length_map, List.length_map], fun i x hx => by
    rw [List.getElem?_map] at hx
    obtain ⟨z, hz, rfl⟩ := Option.map_eq_some_iff.mp hx
    exact ⟨z.1, by rw [List.getElem?_map, hz]; rfl, h z (List.mem_of_getElem? hz)⟩⟩
theorem acts_dta {H : Hp} : ∀ {as : List (Addr × Action)}, (∀ x ∈ as, ActAt K H x.1 x.2) → DtAll K H (as.map fun x => V.ref x.1) ((as.map Prod.snd).map Action.d)
  | [], _ => .nil
  | x :: r, h => .cons (h x (List.mem_cons_self ..)).dt (acts_dta fun y hy => h y (List.mem_cons_of_mem _ hy))
theorem acts_shaped {xs : List Action} (h : ∀ x ∈ xs, x.bad = none) : SeqAt.shaped (.list (xs.map Action.d)) = true :=
  (FitAll.of (n := 2) (w := 1012) (fun d hd => by obtain ⟨x, hx, rfl⟩ := List.mem_map.mp hd; exact fit_action (h x hx))).lst.shaped (by decide)
theorem callApp {A : TrA} {s : TrS} {nm : Str} {a : Addr} {xs : List Action} {H : Hp} {Q : VK} {E : XK} (tr : TrAt K H A s) (h1 : nm.length ≤ 1000) (hA : ActsL K H a xs) (hl : xs.length ≤ 60) (hs : ∀ x ∈ xs, x.sane) (tl : s.trees.length ≤ 1000) (el : s.ents.length ≤ 1000) (ll : s.line = []) (t1 : 1 ≤ s.trees.length)
    (q1 : isNameS nm = false → Refu K H Q "name") (q2 : isNameS nm = true → ∀ z, badsF xs = some z → Refu K H Q z) (q3 : isNameS nm = true → badsF xs = none → s.trees.length = 201 → Refu K H Q "many")
    (q4 : isNameS nm = true → badsF xs = none → s.trees.length ≠ 201 → ∀ H' A', Stp K H A H' A' (s.app nm xs) → Q (.int (s.trees.length : Nat)) H') : spLApp K [.ref A.t, .str nm, .ref a] H Q E := by
  have oor : ∀ {z : Str}, Refu K H Q z → RaisesE K H (rA K Q) z := fun {z} r d H' e hd => .inl ⟨rfl, d, z, rfl, hd, fun p H2 e2 hp => r p H2 (e.trans e2) hp⟩
  exact ⟨A, s, .str nm, .ref a, rfl, tr, A, s, nm, a, xs, rfl, tr, h1, hA, hl, hs, tl, el, by rw [ll]; simp, by rw [ll]; simp, t1, fun g => oor (q1 g), fun g => ⟨fun z hz => oor (q2 g z hz), fun g2 =>
    ⟨fun g3 H' e => .inr ⟨rfl, rfl, fun p H2 e2 hp => q3 g g2 g3 p H2 (e.trans e2) hp⟩, fun g3 H' A' st => q4 g g2 g3 H' A' st⟩⟩⟩
theorem ab_ok : isNameS "ab" = true := by decide +kernel
theorem a_b_no : isNameS "a_b" = false := by decide +kernel
theorem Ok36.add {T : List (List File)} {E : List (Str × List Entry)} {n : Nat} (h : Ok36 T E n) {gs : List File} (G : GoodP gs) {xs : List Action} (hx : ∀ x ∈ xs, x.bad = none) (hl : xs.length ≤ 40) : Ok36 (T ++ [(runF gs xs).2]) (E ++ [(("ab" : Str), (runF gs xs).1)]) (n + 1) :=
  ⟨by rw [List.length_append, h.tl]; rfl, by rw [List.length_append, h.el]; rfl, fun fs hfs => by
    rcases List.mem_append.mp hfs with hfs | hfs
    · exact h.gd fs hfs
    · rw [List.mem_singleton.mp hfs]; exact (runF_ok G hx).2, fun e he => by
    rcases List.mem_append.mp he with he | he
    · exact h.eo e he
    · rw [List.mem_singleton.mp he]
      exact ⟨(by decide +kernel : okS ("ab" : Str) = true), (by decide : ("ab" : Str).length ≤ 8), by rw [run_len]; exact hl, fun x hx2 => ⟨(runF_ok G hx).1 x hx2, run_fit2 G hx x hx2⟩⟩⟩
/-- what a turn of this law leaves -/
def Left36 (K : PySem.W.Frag) (A : TrA) (B : WoA) (b d : Addr) (p a n : Nat) (Q : VK) : Prop := ∀ H' A' B' T E n', A'.t = A.t → B'.w = B.w → n' ≤ n + 1 → Ok36 T E n' → Joint K H' A' B' b d (st36 p a T E) (st36 9 9 T E) → Q (.bl true) H'
def spOne (K : PySem.W.Frag) : Sp := fun vs H Q _ => ∃ (A : TrA) (B : WoA) (b d : Addr) (p a n : Nat) (T : List (List File)) (E : List (Str × List Entry)), vs = [.ref b, .ref A.t, .ref B.w] ∧ Joint K H A B b d (st36 p a T E) (st36 9 9 T E) ∧ Ok36 T E n ∧ n ≤ 100 ∧ Left36 K A B b d p a n Q
theorem sc__law_one : FnScope ["_law_box", "_law_trunk", "_law_world", "_law_actions", "_law_handed", "_law_kind", "_law_told_here", "_law_due", "_law_k"] ["_law_box", "_law_trunk", "_law_world"] (defScope s__law_one) := ⟨rfl, rfl, rfl, by decide +kernel, rfl, by decide +kernel, by decide +kernel⟩
theorem bn__law_one : BindN "_law_one" s__law_one ["_law_box", "_law_trunk", "_law_world"] := fun _ _ _ _ _ _ us hl => match us, hl with | [_, _, _], _ => rfl
theorem b__law_one (T : TX K mg) : Body P w K mg base "_law_one" s__law_one ["_law_box", "_law_trunk", "_law_world", "_law_actions", "_law_handed", "_law_kind", "_law_told_here", "_law_due", "_law_k"] 13 (spOne K) := by
  intro cdv A outer s H vs Q E h X hr
  obtain ⟨A, B, b, d, p, a, n, T', E', rfl, J, O, hn, q⟩ := h
  have D__law_action := D__law_action (P := P) (w := w) (base := base) T; have D__law_append := D__law_append (P := P) (w := w) (base := base) T; have D__law_draw := D__law_draw (P := P) (w := w) (base := base) T; have D__law_made := D__law_made (P := P) (w := w) (base := base) T; have D__law_run := D__law_run (P := P) (w := w) (base := base) T
  refine ⟨_, (pss_cons (ps_setLc (i := 3) (own := [("_law_k", 8)]) rfl sc__law_one.nd rfl rfl (sw_true rfl rfl rfl (by decide +kernel)) (pi_range1 rfl (T.free 27) (pa_cons (pe_callA D__law_draw hr pass0 (pa_cons (pv 0) (pa_cons pe_int pa_nil))) pa_nil)) (blkOk_by (N := ["_law_box", "_law_trunk", "_law_world", "_law_actions", "_law_handed", "_law_kind", "_law_told_here", "_law_due", "_law_k"]) (sc := defScope s__law_one) (by decide +kernel)) (fun _ _ _ _ _ => (pg_name (i := 8) sc__law_one.nd rfl (Or.inl rfl))) (fun _ _ _ _ _ => pts_nil) (fun _ _ _ _ _ => (pe_callA D__law_action hr pass0 (pa_cons (pv 0) pa_nil)))) (pss_cons (ps_set (i := 4) sc__law_one.nd rfl (Or.inl rfl) (pe_callTy (cr_list (K := K)) rfl (T.free 33) (by decide +kernel) (pa_cons (pv 3) pa_nil))) (pss_cons (ps_set (i := 5) sc__law_one.nd rfl (Or.inl rfl) (pe_callA D__law_draw hr pass0 (pa_cons (pv 0) (pa_cons pe_int pa_nil)))) (pss_cons (ps_if (pt_cmpR (op_eqU (K := K) hr.units) (pv 5) pe_int (nomark _)) (pss_one (ps_ret (pe_cmpR (op_eqU (K := K) hr.units) (pe_callA D__law_append hr pass0 (pa_cons (pv 1) (pa_cons pe_str (pa_cons (pe_op (op_addU (K := K)) (pv 4) (pe_lst (pa_cons (pe_tup (pa_cons pe_str (pa_cons pe_str pa_nil))) pa_nil))) pa_nil)))) (pe_tup (pa_cons pe_str (pa_cons pe_str pa_nil))) (nomark _)))) pss_nil) (pss_cons (ps_if (pt_cmpR (op_eqU (K := K) hr.units) (pv 5) pe_int (nomark _)) (pss_one (ps_ret (pe_cmpR (op_eqU (K := K) hr.units) (pe_callA D__law_append hr pass0 (pa_cons (pv 1) (pa_cons pe_str (pa_cons (pe_op (op_addU (K := K)) (pv 4) (pe_lst (pa_cons (pe_tup (pa_cons pe_str (pa_cons pe_str (pa_cons (pe_tup pa_nil) (pa_cons (pe_tup (pa_cons pe_str pa_nil)) pa_nil))))) pa_nil))) pa_nil)))) (pe_tup (pa_cons pe_str (pa_cons pe_str pa_nil))) (nomark _)))) pss_nil) (pss_cons (ps_set (i := 6) sc__law_one.nd rfl (Or.inl rfl) (pe_callA D__law_run hr pass0 (pa_cons (pe_ix (ix_U (K := K)) (pe_ix (ix_U (K := K)) (pv 2) pe_int (fun _ _ => rfl)) (pe_un un_neg pe_int) (fun _ _ => rfl)) (pa_cons (pv 3) pa_nil)))) (pss_cons (ps_set (i := 7) sc__law_one.nd rfl (Or.inl rfl) (pe_callA D__law_made hr pass0 (pa_cons (pv 2) (pa_cons pe_str (pa_cons (pe_ix (ix_U (K := K)) (pv 6) pe_int (fun _ _ => rfl)) (pa_cons (pe_ix (ix_U (K := K)) (pv 6) pe_int (fun _ _ => rfl)) (pa_cons pe_non pa_nil))))))) (pss_one (ps_ret (pe_and (pe_cmpR (op_eqU (K := K) hr.units) (pe_callA D__law_append hr pass0 (pa_cons (pv 1) (pa_cons pe_str (pa_cons (pv 4) pa_nil)))) (pv 7) (nomark _)) (pe_one (pe_cmpR (op_eqU (K := K) hr.units) (pv 4) (pv 3) (nomark _))))))))))))), ?_⟩
  have htl := O.tl
  have hel := O.el
  walk_at "st"
  refine ⟨b, d, 6, rfl, J.bx, by decide, fun m H1 m0 m1 e1 B1 => ?_⟩
  have J1 := J.draw e1 B1
  walk_at "st"
  refine lcR_drawK (fun x : Addr × Action => V.ref x.1) (fun x H => ActAt K H x.1 x.2 ∧ x.2.bad = none) (fun x H H' k h => ⟨h.1.kt k, h.2⟩) B1 (by omega) (fun i H' R S hi e B3 k => ?_) (fun D H2 as hD hlen hP e2 B2 hacc => ?_)
  · walk_at "st"
    refine ⟨rfl, ?_⟩
    walk_at "st"
    refine ⟨b, d, rfl, B3, fun c x H4 hb _ e4 B4 ha => ?_⟩
    exact k (c, x) H4 ⟨ha, hb⟩ e4 B4
  have J2 := J1.draw e2 B2
  have al : as.length ≤ 5 := by omega
  walk_at "st"
  refine c_listL (SqL.of hacc) fun D3 H3 N3 => ?_
  have J3 := J2.kp (N3.kp (ms := []))
  have hP3 : ∀ x ∈ as, ActAt K H3 x.1 x.2 ∧ x.2.bad = none := fun x hx => ⟨(hP x hx).1.kp N3.kp, (hP x hx).2⟩
  have hacc3 := N3.keep hacc
  have hD3 : H3 D3 = some (.lst (as.map fun x => V.ref x.1)) := N3.at_
  walk_at "st"
  refine ⟨b, d, 9, rfl, J3.bx, by decide, fun m4 H4 _ _ e4 B4 => ?_⟩
  have J4 := J3.draw e4 B4
  have bS : ∀ {c : Addr}, H1 c = none → c ≠ b := fun {c} f z => by
    obtain ⟨o, h⟩ := (bx_some J1.bx).1
    rw [← z, f] at h; cases h
  have nD : D ≠ b := bS hD
  have nD3 : D3 ≠ b := fun z => by
    obtain ⟨o, h⟩ := (bx_some J2.bx).1
    have f := N3.fr
    rw [z, h] at f; cases f
  have hD4 := e4.at1 nD hacc3
  have hD34 := e4.at1 nD3 hD3
  have hP4 : ∀ x ∈ as, ActAt K H4 x.1 x.2 := fun x hx => (hP3 x hx).1.kt (J3.bx.kt e4)
  have hPb : ∀ x ∈ as.map Prod.snd, x.bad = none := fun x hx => by obtain ⟨z, hz, rfl⟩ := List.mem_map.mp hx; exact (hP z hz).2
  have xl : (as.map Prod.snd).length ≤ 5 := by rw [List.length_map]; exact al
  walk_at "st"
  refine c_ite (fun g0 => ?_) (fun g0 => ?_)
  · walk_at "st"
    walk_at "nw"
    intro p5 H5 N5
    walk_at "st"
    walk_at "nw"
    intro p6 H6 N6
    have k6 : Kp [] H4 H6 := N5.kp.trans N6.kp
    refine c_addL (k6.at0 hD34) N6.at_ (by rw [sizeLine_eq]; simp only [List.length_cons, List.length_nil, List.length_map]; omega) fun p7 H7 N7 => ?_
    have k7 := k6.trans N7.kp
    have J7 := J4.kp k7
    have hA7 : ActsL K H7 p7 ((as ++ [(p5, Action.read "")]).map Prod.snd) := acts_of (by rw [N7.at_, List.map_append]; rfl) fun x hx => by
      rcases List.mem_append.mp hx with hx | hx
      · exact (hP4 x hx).kp k7
      · rw [List.mem_singleton.mp hx]; exact SqT.kp (N6.kp.trans N7.kp) (SqT.of N5.at_)
    walk_at "st"
    refine callApp J7.tr (by decide) hA7 (by rw [List.length_map, List.length_append, List.length_singleton]; omega) (fun x hx => by
      rw [List.map_append] at hx
      rcases List.mem_append.mp hx with hx | hx
      · exact bad_sane (hPb x hx)
      · rw [List.mem_singleton.mp hx]; show saneS ""; unfold saneS; decide) (by show T'.length ≤ 1000; omega) (by show E'.length ≤ 1000; omega) rfl (by show 1 ≤ T'.length; omega)
      (fun _ p8 H8 e8 hp8 => ?_) (fun g => (by rw [a_b_no] at g; cases g)) (fun g => (by rw [a_b_no] at g; cases g)) (fun g => (by rw [a_b_no] at g; cases g))
    walk_at "st"
    walk_at "nw"
    intro p9 H9 N9
    refine c_eqSame (dp_strsT (ys := ["refused", "name"]) (SqT.of (N9.keep hp8))) (dp_strsT (ys := ["refused", "name"]) (SqT.of N9.at_)) (by decide +kernel) ?_
    exact q H9 A B T' E' n rfl rfl (by omega) O (J7.kp (e8.trans N9.kp))
  walk_at "st"
  refine c_ite (fun g1 => ?_) (fun g1 => ?_)
  · walk_at "st"
    walk_at "nw"
    intro pa Ha Na
    walk_at "st"
    walk_at "nw"
    intro pb Hb Nb
    walk_at "st"
    walk_at "nw"
    intro p5 H5 N5
    walk_at "st"
    walk_at "nw"
    intro p6 H6 N6
    have k6 : Kp [] H4 H6 := ((Na.kp.trans Nb.kp).trans N5.kp).trans N6.kp
    refine c_addL (k6.at0 hD34) N6.at_ (by rw [sizeLine_eq]; simp only [List.length_cons, List.length_nil, List.length_map]; omega) fun p7 H7 N7 => ?_
    have k7 := k6.trans N7.kp
    have J7 := J4.kp k7
    have hz : ActAt K H7 p5 (.splice "a" [] ["p"]) := ⟨pa, pb, SqT.kp (N6.kp.trans N7.kp) (SqT.of N5.at_), SqT.kp (((Nb.kp.trans N5.kp).trans N6.kp).trans N7.kp) (SqT.of Na.at_), SqT.kp ((N5.kp.trans N6.kp).trans N7.kp) (SqT.of Nb.at_)⟩
    have hA7 : ActsL K H7 p7 ((as ++ [(p5, Action.splice "a" [] ["p"])]).map Prod.snd) := acts_of (by rw [N7.at_, List.map_append]; rfl) fun x hx => by
      rcases List.mem_append.mp hx with hx | hx
      · exact (hP4 x hx).kp k7
      · rw [List.mem_singleton.mp hx]; exact hz
    have hbad : badsF ((as ++ [(p5, Action.splice "a" [] ["p"])]).map Prod.snd) = some "old" := by
      refine bads_at (i := (as.map Prod.snd).length) (x := .splice "a" [] ["p"]) (fun y hy => ?_) ?_ (by decide +kernel)
      · rw [List.map_append, List.take_left] at hy
        exact hPb y hy
      · rw [List.map_append, List.getElem?_append_right (Nat.le_refl _), Nat.sub_self]
        rfl
    walk_at "st"
    refine callApp J7.tr (by decide) hA7 (by rw [List.length_map, List.length_append, List.length_singleton]; omega) (fun x hx => by
      rw [List.map_append] at hx
      rcases List.mem_append.mp hx with hx | hx
      · exact bad_sane (hPb x hx)
      · rw [List.mem_singleton.mp hx]
        refine ⟨?_, ⟨?_, ?_⟩, ?_, ?_⟩
        · unfold saneS; decide
        · decide
        · intro y hy; cases hy
        · decide
        · intro y hy; rw [List.mem_singleton.mp hy]; decide) (by show T'.length ≤ 1000; omega) (by show E'.length ≤ 1000; omega) rfl (by show 1 ≤ T'.length; omega)
      (fun g => (by rw [ab_ok] at g; cases g)) (fun _ z hz2 p8 H8 e8 hp8 => ?_) (fun _ g => (by rw [hbad] at g; cases g)) (fun _ g => (by rw [hbad] at g; cases g))
    rw [hbad] at hz2
    obtain rfl := Option.some.inj hz2
    walk_at "st"
    walk_at "nw"
    intro p9 H9 N9
    refine c_eqSame (dp_strsT (ys := ["refused", "old"]) (SqT.of (N9.keep hp8))) (dp_strsT (ys := ["refused", "old"]) (SqT.of N9.at_)) (by decide +kernel) ?_
    exact q H9 A B T' E' n rfl rfl (by omega) O (J7.kp (e8.trans N9.kp))
  have htr : (st36 9 9 T' E').trees[n]? = some (T'.getD n []) := by
    show T'[n]? = _
    rw [List.getD_eq_getElem?_getD, List.getElem?_eq_getElem (by omega)]; rfl
  obtain ⟨f, hf, hT⟩ := J4.wo.tab htr
  obtain ⟨fs, F, G, es⟩ := hT.ex
  have hw4 := J4.wo.w
  have hl04 : SqL K H4 B.l0 (B.fs.map V.ref) := SqL.of J4.wo.l0
  have hfn := J4.wo.fn
  have hfn : B.fs.length = T'.length := hfn
  have GS : GoodP (T'.getD n []) := by rw [← es]; exact G.sort
  walk_at "st"
  first | (refine c_ixL (v := .ref B.l0) (SqL.of hw4) rfl ?_; walk_at "st") | skip
  refine c_ixL (v := .ref f) hl04 (atI_last (by rw [List.length_map, hfn, htl, List.getElem?_map, show n + 1 - 1 = n by omega, hf]; rfl)) ?_
  walk_at "st"
  refine ⟨f, D, as.map Prod.snd, fs, rfl, F, G, acts_of hD4 hP4, by omega, hPb, fun p5 j f5 fs5 H5 e5 hp5 hj F5 G5 es5 => ?_⟩
  rw [es] at hj es5
  have J5 := J4.kp e5
  walk_at "st"
  first | (refine c_ixT hp5 rfl ?_; walk_at "st") | skip
  first | (refine c_ixT hp5 rfl ?_; walk_at "st") | skip
  refine ⟨B, st36 9 9 T' E', "ab", j, f5, _, _, none, rfl, J5.wo, hj, ⟨fs5, F5, G5, es5⟩, by show T'.length ≤ 1000; omega, by show E'.length ≤ 1000; omega, by simp, by simp, .nil, by show 0 < 9; decide, fun H6 B6 st6 => ?_⟩
  have J6 := J5.stw st6
  rw [make36] at J6
  have in2 : ∀ {c : Addr}, H2 c = none → c ∉ own2 B ∧ c ∉ own A := fun {c} f => ⟨fun z => (by obtain ⟨xs, g⟩ := J2.wo.fat c z; rw [f] at g; cases g), fun z => (by obtain ⟨xs, g, _⟩ := J2.tr.fat c z; rw [f] at g; cases g)⟩
  have in1 : ∀ {c : Addr}, H1 c = none → c ∉ own2 B ∧ c ∉ own A := fun {c} f => ⟨fun z => (by obtain ⟨xs, g⟩ := J1.wo.fat c z; rw [f] at g; cases g), fun z => (by obtain ⟨xs, g, _⟩ := J1.tr.fat c z; rw [f] at g; cases g)⟩
  have hD6 := st6.kp _ _ (in1 hD).1 (e5.at0 hD4)
  have hD36 := st6.kp _ _ (in2 N3.fr).1 (e5.at0 hD34)
  have hP6 : ∀ x ∈ as, ActAt K H6 x.1 x.2 := fun x hx => ((hP4 x hx).kp e5).kt st6.fk.kt
  walk_at "st"
  refine callApp J6.tr (by decide) (acts_of hD36 hP6) (by omega) (fun x hx => bad_sane (hPb x hx)) (by show T'.length ≤ 1000; omega) (by show E'.length ≤ 1000; omega) rfl (by show 1 ≤ T'.length; omega)
    (fun g => (by rw [ab_ok] at g; cases g)) (fun _ z hz => (by
      have hn : badsF (as.map Prod.snd) = none := by unfold badsF; rw [List.findSome?_eq_none_iff]; exact hPb
      rw [hn] at hz; cases hz)) (fun _ _ g => absurd (show T'.length = 201 from g) (by omega)) (fun _ _ _ H7 A7 st7 => ?_)
  have J7 := J6.stp st7
  have hnew : (st36 p a T' E').newest = T'.getD n [] := by
    show T'.getD (T'.length - 1) [] = _
    rw [htl]; rfl
  rw [app36, hnew] at J7
  have hD7 := st7.kp _ _ (in1 hD).2 hD6
  have hD37 := st7.kp _ _ (in2 N3.fr).2 hD36
  have hP7 : ∀ x ∈ as, ActAt K H7 x.1 x.2 := fun x hx => (hP6 x hx).kt st7.fk.kt
  walk_at "st"
  rw [decide_eq_true (rfl : (((st36 p a T' E').trees.length : Nat) : Int) = (((st36 9 9 T' E').trees.length : Nat) : Int))]
  walk_at "dc"
  refine c_eqSame (d := .list ((as.map Prod.snd).map Action.d)) (.lst (SqL.of hD37) (acts_dta hP7).dp) (.lst (SqL.of hD7) (acts_dta hP7).dp) (acts_shaped hPb) ?_
  exact q H7 A7 B6 _ _ (n + 1) st7.tt st6.ww (Nat.le_refl _) (O.add GS hPb (by omega)) J7
theorem D__law_one (T : TX K mg) : DefAt P w K mg base CX0 "_law_one" 14 ["_law_box", "_law_trunk", "_law_world"] (spOne K) :=
  def_of T 56 84 sc__law_one bn__law_one (by walk_at "len") (b__law_one T)
end
end K36


namespace K36
open PySem L2 Sa
local macro_rules | `(tactic| walk_at "s1") => `(tactic| first | (with_reducible apply c_dgetK))
local macro_rules | `(tactic| walk_at "s1") => `(tactic| (with_reducible apply c_raiseO))
local macro_rules | `(tactic| walk_at "s1") => `(tactic| first | (with_reducible apply c_un) | (with_reducible apply c_negI))
local macro_rules | `(tactic| walk_at "s1") => `(tactic| first | ((with_reducible apply se_g1 (by assumption)); (· walk_at "lk")) | ((with_reducible apply se_p1 (by assumption)); (· walk_at "lk")) | ((with_reducible apply se_g2 (by assumption)); (· walk_at "lk")) | ((with_reducible apply se_p2 (by assumption)); (· walk_at "lk")) | ((with_reducible apply se_g3 (by assumption)); (· walk_at "lk")) | ((with_reducible apply se_p3 (by assumption)); (· walk_at "lk")) | ((with_reducible apply se_g4 (by assumption)); (· walk_at "lk")) | ((with_reducible apply se_p4 (by assumption)); (· walk_at "lk")) | ((with_reducible apply se_g5 (by assumption)); (· walk_at "lk")) | ((with_reducible apply se_p5 (by assumption)); (· walk_at "lk")) | ((with_reducible apply se_r); (· walk_at "lk"); (· decide +kernel)))
local macro_rules | `(tactic| walk_at "s1") => `(tactic| first | ((with_reducible apply li_g1 (by assumption)); (· walk_at "lk")) | ((with_reducible apply li_p1 (by assumption)); (· walk_at "lk")) | ((with_reducible apply li_g2 (by assumption)); (· walk_at "lk")) | ((with_reducible apply li_p2 (by assumption)); (· walk_at "lk")) | ((with_reducible apply li_g3 (by assumption)); (· walk_at "lk")) | ((with_reducible apply li_p3 (by assumption)); (· walk_at "lk")) | ((with_reducible apply li_r); (· walk_at "lk"); (· decide +kernel)))
local macro_rules | `(tactic| walk_at "s1") => `(tactic| first | ((with_reducible apply tr_g1 (by assumption)); (· walk_at "lk")) | ((with_reducible apply tr_p1 (by assumption)); (· walk_at "lk")) | ((with_reducible apply tr_g2 (by assumption)); (· walk_at "lk")) | ((with_reducible apply tr_p2 (by assumption)); (· walk_at "lk")) | ((with_reducible apply tr_g3 (by assumption)); (· walk_at "lk")) | ((with_reducible apply tr_p3 (by assumption)); (· walk_at "lk")) | ((with_reducible apply tr_g4 (by assumption)); (· walk_at "lk")) | ((with_reducible apply tr_p4 (by assumption)); (· walk_at "lk")) | ((with_reducible apply tr_g5 (by assumption)); (· walk_at "lk")) | ((with_reducible apply tr_p5 (by assumption)); (· walk_at "lk")) | ((with_reducible apply tr_g6 (by assumption)); (· walk_at "lk")) | ((with_reducible apply tr_p6 (by assumption)); (· walk_at "lk")) | ((with_reducible apply tr_g7 (by assumption)); (· walk_at "lk")) | ((with_reducible apply tr_p7 (by assumption)); (· walk_at "lk")) | ((with_reducible apply tr_g8 (by assumption)); (· walk_at "lk")) | ((with_reducible apply tr_p8 (by assumption)); (· walk_at "lk")) | ((with_reducible apply tr_g9 (by assumption)); (· walk_at "lk")) | ((with_reducible apply tr_p9 (by assumption)); (· walk_at "lk")) | ((with_reducible apply tr_r); (· walk_at "lk"); (· decide +kernel)))
set_option pp.maxSteps 1500
section
variable {P : Program} {w : World} {K : PySem.W.Frag} {mg : Str → Option Value} {base : Heap}
def spVers (K : PySem.W.Frag) : Sp := fun vs H Q _ => ∃ (A : TrA) (B : WoA) (b d : Addr) (p a n : Nat) (T : List (List File)) (E : List (Str × List Entry)), vs = [.ref b, .ref A.t, .ref B.w] ∧ Joint K H A B b d (st36 p a T E) (st36 9 9 T E) ∧ Ok36 T E n ∧ n ≤ 100 ∧
  ∀ H', Joint K H' A B b d (st36 p a T E) (st36 9 9 T E) → Q (.bl true) H'
theorem sc__law_versions : FnScope ["_law_box", "_law_trunk", "_law_world", "_law_newest", "_law_version_here", "_law_far", "_law_which"] ["_law_box", "_law_trunk", "_law_world"] (defScope s__law_versions) := ⟨rfl, rfl, rfl, by decide +kernel, rfl, by decide +kernel, by decide +kernel⟩
theorem bn__law_versions : BindN "_law_versions" s__law_versions ["_law_box", "_law_trunk", "_law_world"] := fun _ _ _ _ _ _ us hl => match us, hl with | [_, _, _], _ => rfl
theorem b__law_versions (T : TX K mg) : BodyG P w K mg base "_law_versions" s__law_versions ["_law_box", "_law_trunk", "_law_world", "_law_newest", "_law_version_here", "_law_far", "_law_which"] 5 (spVers K) := by
  intro cdv A outer s H vs Q E h X hr hg
  obtain ⟨A, B, b, d, p, a, n, T', E', rfl, J, O, hn, q⟩ := h
  have D__law_alike := D__law_alike (P := P) (w := w) (base := base) T; have D__law_draw := D__law_draw (P := P) (w := w) (base := base) T; have D__law_files := D__law_files (P := P) (w := w) (base := base) T; have D__law_version := D__law_version (P := P) (w := w) (base := base) T
  refine ⟨_, (pss_cons (ps_set (i := 3) sc__law_versions.nd rfl (Or.inl rfl) (pe_op op_subU (pe_callB (cr_len (K := K)) rfl (T.free 2) PySem.boot_len (pa_cons (pe_ix (ix_U (K := K)) (pv 2) pe_int (fun _ _ => rfl)) pa_nil)) pe_int)) (pss_cons (ps_for PassesOwn.never rfl (pi_range1 rfl (T.free 27) (pa_cons (pe_op (op_addU (K := K)) (pv 3) pe_int) pa_nil)) (pg_name (i := 4) sc__law_versions.nd rfl (Or.inl rfl)) (pss_cons (ps_if (pt_not (pt_tru (K := K) (pe_callG D__law_alike hr hg (pa_cons (pe_callA D__law_version hr pass0 (pa_cons (pv 1) (pa_cons pe_int (pa_cons (pv 4) pa_nil)))) (pa_cons (pe_callA D__law_files hr pass0 (pa_cons (pe_ix (ix_U (K := K)) (pe_ix (ix_U (K := K)) (pv 2) pe_int (fun _ _ => rfl)) (pv 4) (fun _ _ => rfl)) pa_nil)) pa_nil))))) (pss_one (ps_ret pe_bl)) pss_nil) (pss_one (ps_if (PW.pt (pw_and (pt_cmpR op_gtU (pv 4) pe_int (nomark _)) (pw_and1 (pt_not (pt_tru (K := K) (pe_callG D__law_alike hr hg (pa_cons (pe_callA D__law_version hr pass0 (pa_cons (pv 1) (pa_cons pe_int (pa_cons (pv 4) pa_nil)))) (pa_cons (pe_ix (ix_U (K := K)) (pe_ix (ix_U (K := K)) (pv 2) pe_int (fun _ _ => rfl)) (pe_op op_subU (pv 4) pe_int) (fun _ _ => rfl)) pa_nil)))))))) (pss_one (ps_ret pe_bl)) pss_nil)))) (pss_cons (ps_set (i := 5) sc__law_versions.nd rfl (Or.inl rfl) (pe_op (op_addU (K := K)) pe_int (pe_callA D__law_draw hr pass0 (pa_cons (pv 0) (pa_cons pe_int pa_nil))))) (pss_cons (ps_for PassesOwn.never rfl (pi_range1 rfl (T.free 27) (pa_cons pe_int pa_nil)) (pg_name (i := 6) sc__law_versions.nd rfl (Or.inl rfl)) (pss_one (ps_if (PW.pt (pw_or (pt_cmpR (op_neU (K := K) hr.units) (pe_callA D__law_version hr pass0 (pa_cons (pv 1) (pa_cons (pv 6) (pa_cons (pe_op (op_addU (K := K)) (pv 3) (pv 5)) pa_nil)))) (pe_tup (pa_cons pe_str (pa_cons pe_str pa_nil))) (nomark _)) (pw_or1 (pt_cmpR (op_neU (K := K) hr.units) (pe_callA D__law_version hr pass0 (pa_cons (pv 1) (pa_cons (pv 6) (pa_cons (pe_op op_subU pe_int (pv 5)) pa_nil)))) (pe_tup (pa_cons pe_str (pa_cons pe_str pa_nil))) (nomark _))))) (pss_one (ps_ret pe_bl)) pss_nil))) (pss_one (ps_ret (pe_cmpR (op_eqU (K := K) hr.units) (pe_callA D__law_version hr pass0 (pa_cons (pv 1) (pa_cons pe_int (pa_cons pe_int pa_nil)))) (pe_tup (pa_cons pe_str (pa_cons pe_str pa_nil))) (nomark _)))))))), ?_⟩
  have htl := O.tl
  have hel := O.el
  have hw := J.wo.w
  have hl0 : SqL K H B.l0 (B.fs.map V.ref) := SqL.of J.wo.l0
  have hfn : B.fs.length = T'.length := J.wo.fn
  have hel2 : (st36 p a T' E').ents.length + 1 = (st36 p a T' E').trees.length := by show E'.length + 1 = T'.length; omega
  walk_at "st"
  first | (refine c_ixL (v := .ref B.l0) (SqL.of hw) rfl ?_; walk_at "st") | skip
  rw [List.length_map, hfn, htl, show (((n + 1 : Nat) : Int) - 1) = (n : Nat) by omega]
  walk_at "st"
  refine forR (fun i σ H' => ∃ v4 v5 v6, σ = [some (.ref b), some (.ref A.t), some (.ref B.w), some (.int (n : Nat)), v4, v5, v6] ∧ Kp [] H H') ⟨_, _, _, rfl, Kp.refl⟩ ?_ ?_
  · rintro i σ H1 hi ⟨v4, v5, v6, rfl, e1⟩
    have hi2 : i < n + 1 := by omega
    have J1 := J.kp e1
    have htr : (st36 p a T' E').trees[i]? = some (T'.getD i []) := by
      show T'[i]? = _
      rw [List.getD_eq_getElem?_getD, List.getElem?_eq_getElem (by omega)]; rfl
    have GT : GoodP (T'.getD i []) := O.gd _ (List.mem_of_getElem? htr)
    rw [Int.zero_add]
    walk_at "st"
    refine ⟨A, _, 0, i, rfl, J1.tr, hel2, .inl ⟨rfl, fun k fs e hk v H2 e2 hv => ?_, fun no => absurd ⟨by omega, by show (i : Int) < (T'.length : Nat); omega⟩ no⟩⟩
    obtain rfl : k = i := by omega
    rw [htr] at hk
    obtain rfl := Option.some.inj hk
    have J2 := J1.kp e2
    obtain ⟨f, hf, hT⟩ := J2.wo.tab (show (st36 9 9 T' E').trees[k]? = some _ from htr)
    obtain ⟨fs, F, G, es⟩ := hT.ex
    have hw2 := J2.wo.w
    walk_at "st"
    first | (refine c_ixL (v := .ref B.l0) (SqL.of hw2) rfl ?_; walk_at "st") | skip
    refine c_ixL (v := .ref f) (SqL.of J2.wo.l0) (atI_nat (j := k) (by rw [List.getElem?_map, hf]; rfl)) ?_
    walk_at "st"
    refine ⟨f, fs, rfl, F, G.once, by have := G.len; omega, fun p4 H4 rs4 e4 hp4 hrs4 hok4 => ?_⟩
    walk_at "st"
    refine ⟨_, _, rowsOfD (T'.getD k []), rfl, (Dt.kp hv e4).dp, (Dt.tup hp4 (tr_rows_dt (hrs4.trans es) hok4)).dp, rows_nice GT, ?_⟩
    have J4 := J2.kp e4
    walk_at "dc"
    refine c_ite (fun gz => ?_) (fun gz => ?_)
    · obtain ⟨k', rfl⟩ : ∃ k', k = k' + 1 := ⟨k - 1, by omega⟩
      have hkl : k' < E'.length := by omega
      have he : (st36 p a T' E').ents[k']? = some E'[k'] := List.getElem?_eq_getElem (l := E') hkl
      obtain ⟨o1, o2, o3, o4⟩ := O.eo _ (List.mem_of_getElem? he)
      walk_at "st"
      refine ⟨A, _, 1, _, rfl, J4.tr, hel2, .inr ⟨rfl, fun k2 e ek hk2 v55 H5 e5 hv5 => ?_, fun no => absurd ⟨by omega, by show ((k' + 1 : Nat) : Int) < (T'.length : Nat); omega⟩ no⟩⟩
      obtain rfl : k2 = k' := by omega
      rw [he] at hk2
      obtain rfl := Option.some.inj hk2
      have J5 := J4.kp e5
      have hw5 := J5.wo.w
      obtain ⟨v2, hv1, hv2⟩ := dta_get J5.wo.es (show ((st36 9 9 T' E').ents.map entsD)[k2]? = some (entsD E'[k2]) by rw [List.getElem?_map]; show Option.map entsD E'[k2]? = _; rw [List.getElem?_eq_getElem (by omega)]; rfl)
      walk_at "st"
      first | (refine c_ixL (v := .ref B.l1) (SqL.of hw5) rfl ?_; walk_at "st") | skip
      refine c_ixL (v := v2) (SqL.of J5.wo.l1) (by
        rw [show ((k2 + 1 : Nat) : Int) - 1 = (k2 : Nat) by omega]
        exact atI_nat (j := k2) hv1) ?_
      walk_at "st"
      refine ⟨_, _, _, rfl, hv5.dp, hv2.dp, ent_nice o1 o2 o3 o4, ?_⟩
      walk_at "dc"
      exact ⟨_, _, _, rfl, ((e1.trans e2).trans e4).trans e5⟩
    · walk_at "dc"
      exact ⟨_, _, _, rfl, (e1.trans e2).trans e4⟩
  · rintro σ H1 ⟨v4, v5, v6, rfl, e1⟩
    have J1 := J.kp e1
    walk_at "st"
    refine ⟨b, d, 9, rfl, J1.bx, by decide, fun m H2 m0 m1 e2 B2 => ?_⟩
    have J2 := J1.draw e2 B2
    walk_at "st"
    refine forR (fun i σ H' => ∃ v6, σ = [some (.ref b), some (.ref A.t), some (.ref B.w), some (.int (n : Nat)), v4, some (.int (1 + m)), v6] ∧ Kp [] H2 H') ⟨_, rfl, Kp.refl⟩ ?_ ?_
    · rintro i σ H3 hi ⟨v6, rfl, e3⟩
      have J3 := J2.kp e3
      rw [Int.zero_add]
      have two : ∀ {H' : Hp} {j : Int} {Q' : VK} {E0' : XK}, TrAt K H' A (st36 p a T' E') → (j < 0 ∨ (T'.length : Nat) ≤ j) → Refu K H' Q' "version" → spLVer K [.ref A.t, .int (i : Nat), .int j] H' Q' E0' := fun {H' j Q' E0'} tr hj r => by
        refine ⟨A, _, _, j, rfl, tr, hel2, ?_⟩
        have hi2 : i < 2 := hi
        rcases Nat.lt_or_ge i 1 with h | h
        · obtain rfl : i = 0 := by omega
          exact .inl ⟨rfl, fun k fs e hk => absurd (show k < T'.length from (List.getElem?_eq_some_iff.mp hk).1) (by omega), fun _ => r⟩
        · obtain rfl : i = 1 := by omega
          exact .inr ⟨rfl, fun k e ek hk => absurd (show k < E'.length from (List.getElem?_eq_some_iff.mp hk).1) (by omega), fun _ => r⟩
      walk_at "st"
      refine two J3.tr (.inr (by omega)) fun p4 H4 e4 hp4 => ?_
      have J4 := J3.kp e4
      walk_at "st"
      walk_at "nw"
      intro p5 H5 N5
      refine c_neSame (dp_strsT (ys := ["refused", "version"]) (SqT.of (N5.keep hp4))) (dp_strsT (ys := ["refused", "version"]) (SqT.of N5.at_)) (by decide +kernel) ?_
      have J5 := J4.kp (N5.kp (ms := []))
      walk_at "dc"
      refine two J5.tr (.inl (by omega)) fun p6 H6 e6 hp6 => ?_
      walk_at "st"
      walk_at "nw"
      intro p7 H7 N7
      refine c_neSame (dp_strsT (ys := ["refused", "version"]) (SqT.of (N7.keep hp6))) (dp_strsT (ys := ["refused", "version"]) (SqT.of N7.at_)) (by decide +kernel) ?_
      walk_at "dc"
      exact ⟨_, rfl, (((e3.trans e4).trans N5.kp).trans e6).trans N7.kp⟩
    · rintro σ H3 ⟨v6, rfl, e3⟩
      have J3 := J2.kp e3
      walk_at "st"
      refine ⟨A, _, 1, 0, rfl, J3.tr, hel2, .inr ⟨rfl, fun k e ek hk => absurd ek (by omega), fun _ p4 H4 e4 hp4 => ?_⟩⟩
      walk_at "st"
      walk_at "nw"
      intro p5 H5 N5
      refine c_eqSame (dp_strsT (ys := ["refused", "version"]) (SqT.of (N5.keep hp4))) (dp_strsT (ys := ["refused", "version"]) (SqT.of N5.at_)) (by decide +kernel) ?_
      exact q H5 (J3.kp (e4.trans N5.kp))
theorem D__law_versions (T : TX K mg) : DefG P w K mg base "_law_versions" 6 ["_law_box", "_law_trunk", "_law_world"] (spVers K) :=
  defG_of T 57 85 sc__law_versions bn__law_versions (by walk_at "len") (b__law_versions T)
/-- what a session that is not there is told -/
def spStrR (K : PySem.W.Frag) : Sp := fun vs H Q E => ∃ (A : TrA) (s : TrS) (wh i : Int), vs = [.ref A.t, .int wh, .int i] ∧ TrAt K H A s ∧ (∀ y ∈ s.sess, SessOk s y) ∧ 1 ≤ s.trees.length ∧ ¬ (0 ≤ i ∧ i < s.sess.length) ∧ E (.ref (He.ga K "NoSession")) none H
theorem sc__law_stranger_raw : FnScope ["_law_trunk", "_law_which", "_law_session"] ["_law_trunk", "_law_which", "_law_session"] (defScope s__law_stranger_raw) := ⟨rfl, rfl, rfl, by decide +kernel, rfl, by decide +kernel, by decide +kernel⟩
theorem bn__law_stranger_raw : BindN "_law_stranger_raw" s__law_stranger_raw ["_law_trunk", "_law_which", "_law_session"] := fun _ _ _ _ _ _ us hl => match us, hl with | [_, _, _], _ => rfl
theorem b__law_stranger_raw (T : TX K mg) : BodyX P w K mg base "_law_stranger_raw" s__law_stranger_raw ["_law_trunk", "_law_which", "_law_session"] 13 (spStrR K) := by
  intro cdv A outer s H vs Q E h X hr tk
  obtain ⟨A, s, wh, i, rfl, h, ok, t1, no, q⟩ := h
  have C_Trunk := C_Trunk T; have M_Trunk_base := M_Trunk_base (P := P) (w := w) (base := base) T; have M_Trunk_is_protected := M_Trunk_is_protected (P := P) (w := w) (base := base) T; have M_Trunk_journal := M_Trunk_journal (P := P) (w := w) (base := base) T; have M_Trunk_name := M_Trunk_name (P := P) (w := w) (base := base) T; have M_Trunk_place := M_Trunk_place (P := P) (w := w) (base := base) T; have M_Trunk_refusals := M_Trunk_refusals (P := P) (w := w) (base := base) T; have M_Trunk_sight := M_Trunk_sight (P := P) (w := w) (base := base) T; have M_Trunk_standing := M_Trunk_standing (P := P) (w := w) (base := base) T; have M_Trunk_state := M_Trunk_state (P := P) (w := w) (base := base) T
  refine ⟨_, (pss_cons (ps_if (pt_cmpR (op_eqU (K := K) hr.units) (pv 1) pe_int (nomark _)) (pss_one (ps_ret (pe_methS1 M_Trunk_state C_Trunk hr (atW tk) (pv 0) (pa_cons (pv 2) pa_nil)))) pss_nil) (pss_cons (ps_if (pt_cmpR (op_eqU (K := K) hr.units) (pv 1) pe_int (nomark _)) (pss_one (ps_ret (pe_methS1 M_Trunk_name C_Trunk hr (atW tk) (pv 0) (pa_cons (pv 2) pa_nil)))) pss_nil) (pss_cons (ps_if (pt_cmpR (op_eqU (K := K) hr.units) (pv 1) pe_int (nomark _)) (pss_one (ps_ret (pe_methS1 M_Trunk_base C_Trunk hr (atW tk) (pv 0) (pa_cons (pv 2) pa_nil)))) pss_nil) (pss_cons (ps_if (pt_cmpR (op_eqU (K := K) hr.units) (pv 1) pe_int (nomark _)) (pss_one (ps_ret (pe_methS1 M_Trunk_refusals C_Trunk hr (atW tk) (pv 0) (pa_cons (pv 2) pa_nil)))) pss_nil) (pss_cons (ps_if (pt_cmpR (op_eqU (K := K) hr.units) (pv 1) pe_int (nomark _)) (pss_one (ps_ret (pe_methS1 M_Trunk_journal C_Trunk hr (atW tk) (pv 0) (pa_cons (pv 2) pa_nil)))) pss_nil) (pss_cons (ps_if (pt_cmpR (op_eqU (K := K) hr.units) (pv 1) pe_int (nomark _)) (pss_one (ps_ret (pe_methS1 M_Trunk_sight C_Trunk hr (atW tk) (pv 0) (pa_cons (pv 2) pa_nil)))) pss_nil) (pss_cons (ps_if (pt_cmpR (op_eqU (K := K) hr.units) (pv 1) pe_int (nomark _)) (pss_one (ps_ret (pe_methS1 M_Trunk_place C_Trunk hr (atW tk) (pv 0) (pa_cons (pv 2) pa_nil)))) pss_nil) (pss_cons (ps_if (pt_cmpR (op_eqU (K := K) hr.units) (pv 1) pe_int (nomark _)) (pss_one (ps_ret (pe_methS1 M_Trunk_is_protected C_Trunk hr (atW tk) (pv 0) (pa_cons (pv 2) pa_nil)))) pss_nil) (pss_one (ps_ret (pe_methS1 M_Trunk_standing C_Trunk hr (atW tk) (pv 0) (pa_cons (pv 2) pa_nil)))))))))))), ?_⟩
  have ht := h.t
  have nok : ∀ {k : Nat} {x : Sess} {p : Prop}, i = (k : Int) → s.sess[k]? = some x → p := fun e hx => absurd ⟨by omega, by have := (List.getElem?_eq_some_iff.mp hx).1; omega⟩ no
  walk_at "st"
  refine c_ite (fun g => ?_) (fun g => ?_)
  · walk_at "st"
    exact ⟨A, s, i, rfl, h, fun k x v e hx _ => nok e hx, fun _ => q⟩
  walk_at "st"
  refine c_ite (fun g => ?_) (fun g => ?_)
  · walk_at "st"
    exact ⟨A, s, i, rfl, h, fun k x v e hx _ => nok e hx, fun _ => q⟩
  walk_at "st"
  refine c_ite (fun g => ?_) (fun g => ?_)
  · walk_at "st"
    exact ⟨A, s, i, rfl, h, fun k x v e hx _ => nok e hx, fun _ => q⟩
  walk_at "st"
  refine c_ite (fun g => ?_) (fun g => ?_)
  · walk_at "st"
    exact ⟨A, s, i, rfl, h, fun k x v e hx _ => nok e hx, fun _ => q⟩
  walk_at "st"
  refine c_ite (fun g => ?_) (fun g => ?_)
  · walk_at "st"
    exact ⟨A, s, i, rfl, h, fun k x j e hx _ => nok e hx, fun _ => q⟩
  walk_at "st"
  refine c_ite (fun g => ?_) (fun g => ?_)
  · walk_at "st"
    exact ⟨A, s, i, rfl, h, ok, fun k x a' H' e hx _ _ => nok e hx, fun _ => q⟩
  walk_at "st"
  refine c_ite (fun g => ?_) (fun g => ?_)
  · walk_at "st"
    exact ⟨A, s, i, rfl, h, fun k x e hx => nok e hx, fun _ => q⟩
  walk_at "st"
  refine c_ite (fun g => ?_) (fun g => ?_)
  · walk_at "st"
    exact ⟨A, s, i, rfl, h, fun k x e hx => nok e hx, fun _ => q⟩
  walk_at "st"
  exact ⟨A, s, i, rfl, h, ok, t1, fun _ => q, fun k y e hy _ => nok e hy⟩
theorem D__law_stranger_raw (T : TX K mg) : DefAt P w K mg base (L2.CX P w) "_law_stranger_raw" 14 ["_law_trunk", "_law_which", "_law_session"] (spStrR K) :=
  def_ofX T 58 86 sc__law_stranger_raw bn__law_stranger_raw (by walk_at "len") (b__law_stranger_raw T)
def spStr (K : PySem.W.Frag) : Sp := fun vs H Q _ => ∃ (A : TrA) (s : TrS) (i : Int), vs = [.ref A.t, .int i] ∧ TrAt K H A s ∧ (∀ y ∈ s.sess, SessOk s y) ∧ 1 ≤ s.trees.length ∧ ¬ (0 ≤ i ∧ i < s.sess.length) ∧ ∀ H', Kp [] H H' → Q (.bl true) H'
theorem sc__law_stranger : FnScope ["_law_trunk", "_law_session", "_law_which", "_law_told_here"] ["_law_trunk", "_law_session"] (defScope s__law_stranger) := ⟨rfl, rfl, rfl, by decide +kernel, rfl, by decide +kernel, by decide +kernel⟩
theorem bn__law_stranger : BindN "_law_stranger" s__law_stranger ["_law_trunk", "_law_session"] := fun _ _ _ _ _ _ us hl => match us, hl with | [_, _], _ => rfl
theorem b__law_stranger (T : TX K mg) : Body P w K mg base "_law_stranger" s__law_stranger ["_law_trunk", "_law_session", "_law_which", "_law_told_here"] 14 (spStr K) := by
  intro cdv A outer s H vs Q E h X hr
  obtain ⟨A, s, i, rfl, h, ok, t1, no, q⟩ := h
  have D__law_stranger_raw := D__law_stranger_raw (P := P) (w := w) (base := base) T
  refine ⟨_, (pss_cons (ps_for PassesOwn.never rfl (pi_range1 rfl (T.free 27) (pa_cons pe_int pa_nil)) (pg_name (i := 2) sc__law_stranger.nd rfl (Or.inl rfl)) (pss_cons (ps_set (i := 3) sc__law_stranger.nd rfl (Or.inl rfl) pe_str) (pss_cons (ps_try_many rfl rfl takes_never (fun W pn xe tk1 po1 => (pss_one (ps_expr (pe_callX D__law_stranger_raw hr tk1 (pa_cons (pv 0) (pa_cons (pv 2) (pa_cons (pv 1) pa_nil))))))) (HdsOk.cons (names_glo (T.glo 87)) (fun a oe cls d pn hz hf => (pss_one (ps_set (i := 3) sc__law_stranger.nd rfl (Or.inl rfl) pe_str))) HdsOk.nil)) (pss_one (ps_if (pt_cmpR (op_neU (K := K) hr.units) (pv 3) pe_str (nomark _)) (pss_one (ps_ret pe_bl)) pss_nil))))) (pss_one (ps_ret pe_bl))), ?_⟩
  walk_at "st"
  refine forR (fun k σ H' => ∃ v2 v3, σ = [some (.ref A.t), some (.int i), v2, v3] ∧ Kp [] H H') ⟨_, _, rfl, Kp.refl⟩ ?_ ?_
  · rintro k σ H1 hk ⟨v2, v3, rfl, e1⟩
    walk_at "st"
    refine ⟨A, s, _, i, rfl, h.kp e1, ok, t1, no, ?_⟩
    refine ⟨true, He.exm_ok (T.fact 175), fun _ ea hea => ?_, fun z => nomatch z⟩
    walk_at "st"
    rw [decide_eq_true rfl]
    walk_at "dc"
    exact ⟨_, _, rfl, e1⟩
  · rintro σ H1 ⟨v2, v3, rfl, e1⟩
    walk_at "st"
    exact q H1 e1
theorem D__law_stranger (T : TX K mg) : DefAt P w K mg base CX0 "_law_stranger" 15 ["_law_trunk", "_law_session"] (spStr K) :=
  def_of T 59 88 sc__law_stranger bn__law_stranger (by walk_at "len") (b__law_stranger T)
end
end K36


namespace K36
open PySem L2 Sa
local macro_rules | `(tactic| walk_at "s1") => `(tactic| first | (with_reducible apply c_dgetK))
local macro_rules | `(tactic| walk_at "s1") => `(tactic| (with_reducible apply c_raiseO))
local macro_rules | `(tactic| walk_at "s1") => `(tactic| first | (with_reducible apply c_un) | (with_reducible apply c_negI))
local macro_rules | `(tactic| walk_at "s1") => `(tactic| first | ((with_reducible apply se_g1 (by assumption)); (· walk_at "lk")) | ((with_reducible apply se_p1 (by assumption)); (· walk_at "lk")) | ((with_reducible apply se_g2 (by assumption)); (· walk_at "lk")) | ((with_reducible apply se_p2 (by assumption)); (· walk_at "lk")) | ((with_reducible apply se_g3 (by assumption)); (· walk_at "lk")) | ((with_reducible apply se_p3 (by assumption)); (· walk_at "lk")) | ((with_reducible apply se_g4 (by assumption)); (· walk_at "lk")) | ((with_reducible apply se_p4 (by assumption)); (· walk_at "lk")) | ((with_reducible apply se_g5 (by assumption)); (· walk_at "lk")) | ((with_reducible apply se_p5 (by assumption)); (· walk_at "lk")) | ((with_reducible apply se_r); (· walk_at "lk"); (· decide +kernel)))
local macro_rules | `(tactic| walk_at "s1") => `(tactic| first | ((with_reducible apply li_g1 (by assumption)); (· walk_at "lk")) | ((with_reducible apply li_p1 (by assumption)); (· walk_at "lk")) | ((with_reducible apply li_g2 (by assumption)); (· walk_at "lk")) | ((with_reducible apply li_p2 (by assumption)); (· walk_at "lk")) | ((with_reducible apply li_g3 (by assumption)); (· walk_at "lk")) | ((with_reducible apply li_p3 (by assumption)); (· walk_at "lk")) | ((with_reducible apply li_r); (· walk_at "lk"); (· decide +kernel)))
local macro_rules | `(tactic| walk_at "s1") => `(tactic| first | ((with_reducible apply tr_g1 (by assumption)); (· walk_at "lk")) | ((with_reducible apply tr_p1 (by assumption)); (· walk_at "lk")) | ((with_reducible apply tr_g2 (by assumption)); (· walk_at "lk")) | ((with_reducible apply tr_p2 (by assumption)); (· walk_at "lk")) | ((with_reducible apply tr_g3 (by assumption)); (· walk_at "lk")) | ((with_reducible apply tr_p3 (by assumption)); (· walk_at "lk")) | ((with_reducible apply tr_g4 (by assumption)); (· walk_at "lk")) | ((with_reducible apply tr_p4 (by assumption)); (· walk_at "lk")) | ((with_reducible apply tr_g5 (by assumption)); (· walk_at "lk")) | ((with_reducible apply tr_p5 (by assumption)); (· walk_at "lk")) | ((with_reducible apply tr_g6 (by assumption)); (· walk_at "lk")) | ((with_reducible apply tr_p6 (by assumption)); (· walk_at "lk")) | ((with_reducible apply tr_g7 (by assumption)); (· walk_at "lk")) | ((with_reducible apply tr_p7 (by assumption)); (· walk_at "lk")) | ((with_reducible apply tr_g8 (by assumption)); (· walk_at "lk")) | ((with_reducible apply tr_p8 (by assumption)); (· walk_at "lk")) | ((with_reducible apply tr_g9 (by assumption)); (· walk_at "lk")) | ((with_reducible apply tr_p9 (by assumption)); (· walk_at "lk")) | ((with_reducible apply tr_r); (· walk_at "lk"); (· decide +kernel)))
set_option pp.maxSteps 1500
section
variable {P : Program} {w : World} {K : PySem.W.Frag} {mg : Str → Option Value} {base : Heap}
def y0 : Sess := ⟨"a", 0, [], 0, "open"⟩
abbrev st1 (T : List (List File)) (E : List (Str × List Entry)) : TrS := ⟨3, 3, T, E, [y0], [], false, 0, 0⟩
theorem pq_ok : ∀ z ∈ (["p", "q"] : List Str), (Action.write "a" [z]).bad = none := by decide +kernel
def spMany (K : PySem.W.Frag) : Sp := fun vs H Q _ => ∃ (b : Addr), vs = [.ref b] ∧ ∀ H', Q (.bl true) H'
theorem sc__law_many : FnScope ["_law_box", "_law_trunk", "_law_session", "_law_version_here"] ["_law_box"] (defScope s__law_many) := ⟨rfl, rfl, rfl, by decide +kernel, rfl, by decide +kernel, by decide +kernel⟩
theorem bn__law_many : BindN "_law_many" s__law_many ["_law_box"] := fun _ _ _ _ _ _ us hl => match us, hl with | [_], _ => rfl
theorem b__law_many (T : TX K mg) : Body P w K mg base "_law_many" s__law_many ["_law_box", "_law_trunk", "_law_session", "_law_version_here"] 15 (spMany K) := by
  intro cdv A outer s H vs Q E h X hr
  obtain ⟨b, rfl, q⟩ := h
  have C_Tree := C_Tree T; have C_Trunk := C_Trunk T; have D__law_append := D__law_append (P := P) (w := w) (base := base) T; have D__law_submit := D__law_submit (P := P) (w := w) (base := base) T; have M0_Tree___init__ := M0_Tree___init__ (P := P) (w := w) (base := base) T; have M_Trunk___init__ := M_Trunk___init__ (P := P) (w := w) (base := base) T; have M_Trunk_begin := M_Trunk_begin (P := P) (w := w) (base := base) T; have M_Trunk_state := M_Trunk_state (P := P) (w := w) (base := base) T; have M_Trunk_version := M_Trunk_version (P := P) (w := w) (base := base) T; have Mk_Tree := Mk_Tree T; have Mk_Trunk := Mk_Trunk T
  refine ⟨_, (pss_cons (ps_set (i := 1) sc__law_many.nd rfl (Or.inl rfl) (pe_newS M_Trunk___init__ Mk_Trunk C_Trunk hr atE (pa_cons (pe_newD M0_Tree___init__ Mk_Tree C_Tree hr atE) (pa_cons pe_int (pa_cons pe_int pa_nil))))) (pss_cons (ps_set (i := 2) sc__law_many.nd rfl (Or.inl rfl) (pe_methS1 M_Trunk_begin C_Trunk hr atE (pv 1) (pa_cons pe_str pa_nil))) (pss_cons (ps_for PassesOwn.never rfl (pi_range1 rfl (T.free 27) (pa_cons pe_int pa_nil)) (pg_name (i := 3) sc__law_many.nd rfl (Or.inl rfl)) (pss_one (ps_if (pt_cmpR (op_neU (K := K) hr.units) (pe_callA D__law_append hr pass0 (pa_cons (pv 1) (pa_cons pe_str (pa_cons (pe_lst (pa_cons (pe_tup (pa_cons pe_str (pa_cons pe_str (pa_cons (pe_tup (pa_cons (pe_ix (ix_U (K := K)) (pe_lst (pa_cons pe_str (pa_cons pe_str pa_nil))) (pe_op op_subU (pv 3) (pe_op (op_mulU (K := K)) pe_int (pe_callTy cr_int rfl (T.free 52) (by decide +kernel) (pa_cons (pe_op op_divU (pv 3) pe_int) pa_nil)))) (fun _ _ => rfl)) pa_nil)) pa_nil)))) pa_nil)) pa_nil)))) (pe_op (op_addU (K := K)) (pv 3) pe_int) (nomark _)) (pss_one (ps_ret pe_bl)) pss_nil))) (pss_cons (ps_if (PW.pt (pw_or (pt_cmpR (op_neU (K := K) hr.units) (pe_callA D__law_append hr pass0 (pa_cons (pv 1) (pa_cons pe_str (pa_cons (pe_lst pa_nil) pa_nil)))) (pe_tup (pa_cons pe_str (pa_cons pe_str pa_nil))) (nomark _)) (pw_or1 (pt_cmpR (op_neU (K := K) hr.units) (pe_callA D__law_append hr pass0 (pa_cons (pv 1) (pa_cons pe_str (pa_cons (pe_lst pa_nil) pa_nil)))) (pe_tup (pa_cons pe_str (pa_cons pe_str pa_nil))) (nomark _))))) (pss_one (ps_ret pe_bl)) pss_nil) (pss_one (ps_ret (pe_and (pe_cmpR (op_eqU (K := K) hr.units) (pe_callA D__law_submit hr pass0 (pa_cons (pv 1) (pa_cons (pv 2) (pa_cons pe_int pa_nil)))) (pe_tup (pa_cons pe_str (pa_cons pe_str pa_nil))) (nomark _)) (pe_and (pe_cmpR (op_eqU (K := K) hr.units) (pe_methS0 M_Trunk_version C_Trunk hr at0 (pv 1)) pe_int (nomark _)) (pe_one (pe_cmpR (op_eqU (K := K) hr.units) (pe_methS1 M_Trunk_state C_Trunk hr atE (pv 1) (pa_cons (pv 2) pa_nil)) pe_str (nomark _))))))))))), ?_⟩
  walk_at "st"
  refine c_tree0 T fun t H1 e1 hT => ?_
  walk_at "st"
  refine c_newTr hT ⟨by decide, by decide⟩ ⟨by decide, by decide⟩ fun A H2 e2 tr2 fr2 => ?_
  have tr2 : TrAt K H2 A (st36 3 3 [[]] []) := tr2
  have ht2 := tr2.t
  have na : isNameS "a" = true := by decide +kernel
  walk_at "st"
  refine ⟨A, _, "a", rfl, tr2, by decide, by decide, by decide, fun g => (by rw [na] at g; cases g), fun _ g => (by cases g), fun _ _ H3 A3 st => ?_⟩
  rw [← st.tt]
  have tr3 : TrAt K H3 A3 (st1 [[]] []) := st.at_
  walk_at "st"
  refine forR (fun i σ H' => ∃ v3 A' T' E', σ = [some (.ref b), some (.ref A3.t), some (.int 0), v3] ∧ A'.t = A3.t ∧ TrAt K H' A' (st1 T' E') ∧ T'.length = i + 1 ∧ E'.length = i) ⟨_, A3, _, _, rfl, rfl, tr3, rfl, rfl⟩ ?_ ?_
  · rintro i σ H4 hi ⟨v3, A4, T4, E4, rfl, et, tr4, htl, hel⟩
    have hi2 : i < 200 := hi
    rw [Int.zero_add, ← et]
    walk_at "st"
    walk_at "nw"
    intro p5 H5 N5
    walk_at "st"
    refine c_pickM (u := V.str) ["p", "q"] (SqL.of N5.at_) (by omega) (by simp only [List.length_cons, List.length_nil]; omega) fun z hz => ?_
    walk_at "st"
    walk_at "nw"
    intro p6 H6 N6
    walk_at "st"
    walk_at "nw"
    intro p7 H7 N7
    walk_at "st"
    walk_at "nw"
    intro p8 H8 N8
    have k8 : Kp [] H4 H8 := ((N5.kp.trans N6.kp).trans N7.kp).trans N8.kp
    have tr8 := tr4.kp k8
    have hb := pq_ok z hz
    have hx : ActAt K H8 p7 (.write "a" [z]) := ⟨p6, SqT.kp N8.kp (SqT.of N7.at_), SqT.kp (N7.kp.trans N8.kp) (SqT.of N6.at_)⟩
    have nv : isNameS "v" = true := by decide +kernel
    have hn : badsF [Action.write "a" [z]] = none := by unfold badsF; rw [List.findSome?_eq_none_iff]; intro x hx; rw [List.mem_singleton.mp hx]; exact hb
    walk_at "st"
    refine callApp (xs := [Action.write "a" [z]]) tr8 (by decide) (acts_of (as := [(p7, Action.write "a" [z])]) N8.at_ fun x hx' => (by rw [List.mem_singleton.mp hx']; exact hx)) (by simp) (fun x hx' => (by rw [List.mem_singleton.mp hx']; exact bad_sane hb)) (by show T4.length ≤ 1000; omega) (by show E4.length ≤ 1000; omega) rfl (by show 1 ≤ T4.length; omega)
      (fun g => (by rw [nv] at g; cases g)) (fun _ z2 hz2 => (by rw [hn] at hz2; cases hz2)) (fun _ _ g => absurd (show T4.length = 201 from g) (by omega)) (fun _ _ _ H9 A9 st9 => ?_)
    walk_at "st"
    rw [decide_eq_true (show (((st1 T4 E4).trees.length : Nat) : Int) = (i : Int) + 1 by show ((T4.length : Nat) : Int) = _; omega)]
    walk_at "dc"
    exact ⟨_, A9, _, _, rfl, st9.tt, st9.at_, by rw [List.length_append, htl]; rfl, by rw [List.length_append, hel]; rfl⟩
  · rintro σ H4 ⟨v3, A4, T4, E4, rfl, et, tr4, htl, hel⟩
    have htl : T4.length = 201 := htl
    have hel : E4.length = 200 := hel
    have nv : isNameS "v" = true := by decide +kernel
    have nV : isNameS "V" = false := by decide +kernel
    rw [← et]
    walk_at "st"
    walk_at "nw"
    intro p5 H5 N5
    have tr5 := tr4.kp (N5.kp (ms := []))
    walk_at "st"
    refine callApp (xs := []) tr5 (by decide) (acts_of (as := []) N5.at_ fun x hx' => nomatch hx') (by simp) (fun x hx' => nomatch hx') (by show T4.length ≤ 1000; omega) (by show E4.length ≤ 1000; omega) rfl (by show 1 ≤ T4.length; omega)
      (fun g => (by rw [nv] at g; cases g)) (fun _ z2 hz2 => nomatch hz2) (fun _ _ g p6 H6 e6 hp6 => ?_) (fun _ _ g => absurd (show (st1 T4 E4).trees.length = 201 from htl) g)
    have tr6 := tr5.kp e6
    walk_at "st"
    walk_at "nw"
    intro p7 H7 N7
    refine c_neSame (dp_strsT (ys := ["refused", "many"]) (SqT.of (N7.keep hp6))) (dp_strsT (ys := ["refused", "many"]) (SqT.of N7.at_)) (by decide +kernel) ?_
    have tr7 := tr6.kp (N7.kp (ms := []))
    walk_at "dc"
    walk_at "nw"
    intro p8 H8 N8
    have tr8 := tr7.kp (N8.kp (ms := []))
    walk_at "st"
    refine callApp (xs := []) tr8 (by decide) (acts_of (as := []) N8.at_ fun x hx' => nomatch hx') (by simp) (fun x hx' => nomatch hx') (by show T4.length ≤ 1000; omega) (by show E4.length ≤ 1000; omega) rfl (by show 1 ≤ T4.length; omega)
      (fun g p9 H9 e9 hp9 => ?_) (fun g => (by rw [nV] at g; cases g)) (fun g => (by rw [nV] at g; cases g)) (fun g => (by rw [nV] at g; cases g))
    have tr9 := tr8.kp e9
    walk_at "st"
    walk_at "nw"
    intro p10 H10 N10
    refine c_neSame (dp_strsT (ys := ["refused", "name"]) (SqT.of (N10.keep hp9))) (dp_strsT (ys := ["refused", "name"]) (SqT.of N10.at_)) (by decide +kernel) ?_
    have tr10 := tr9.kp (N10.kp (ms := []))
    walk_at "dc"
    have ok : ∀ y ∈ (st1 T4 E4).sess, SessOk (st1 T4 E4) y := fun y hy => by
      rw [List.mem_singleton.mp hy]
      exact ⟨by decide, by simp [y0], by show 0 < T4.length; omega, by simp [y0]⟩
    refine ⟨A4, st1 T4 E4, 0, y0, rfl, tr10, ok, htl, by show E4.length ≤ 1000; omega, by simp, by simp, rfl, rfl, fun p11 H11 e11 hp11 => ?_⟩
    have tr11 := tr10.kp e11
    walk_at "st"
    walk_at "nw"
    intro p12 H12 N12
    refine c_eqSame (dp_strsT (ys := ["refused", "many"]) (SqT.of (N12.keep hp11))) (dp_strsT (ys := ["refused", "many"]) (SqT.of N12.at_)) (by decide +kernel) ?_
    have tr12 := tr11.kp (N12.kp (ms := []))
    have ht12 := tr12.t
    walk_at "dc"
    refine ⟨A4, st1 T4 E4, rfl, tr12, ?_⟩
    walk_at "st"
    rw [decide_eq_true (show (((st1 T4 E4).trees.length : Nat) : Int) - 1 = 200 by show ((T4.length : Nat) : Int) - 1 = 200; omega)]
    walk_at "dc"
    refine getS (k := 0) (y := y0) tr12 rfl fun v hv => ?_
    subst hv
    walk_at "st"
    exact q _
theorem D__law_many (T : TX K mg) : DefAt P w K mg base CX0 "_law_many" 16 ["_law_box"] (spMany K) :=
  def_of T 60 89 sc__law_many bn__law_many (by walk_at "len") (b__law_many T)
theorem made1 {m : Int} (h : 0 ≤ m) (a : Int) : madeS (1 - (1 + m)) a = "patience" := by unfold madeS; rw [if_neg (by omega)]
theorem made2 {m : Int} (h : 0 ≤ m) (a : Int) : madeS (9 + (1 + m)) a = "patience" := by unfold madeS; rw [if_neg (by omega)]
theorem made3 {m : Int} (h : 0 ≤ m) {p : Int} (hp : 1 ≤ p ∧ p ≤ 9) : madeS p (1 - (1 + m)) = "allowance" := by unfold madeS; rw [if_pos hp, if_neg (by omega)]
theorem made4 {m : Int} (h : 0 ≤ m) {p : Int} (hp : 1 ≤ p ∧ p ≤ 9) : madeS p (9 + (1 + m)) = "allowance" := by unfold madeS; rw [if_pos hp, if_neg (by omega)]
theorem made5 : madeS 9 9 = "" := by unfold madeS; rw [if_pos (by decide), if_pos (by decide)]
def spLaw (K : PySem.W.Frag) : Sp := fun vs H Q _ => ∃ (a : Addr) (ns : List Int), vs = [.ref a] ∧ SqL K H a (ns.map V.int) ∧ ∀ H', Q (.bl true) H'
theorem sc_law : FnScope ["_law_script", "_law_box", "_law_table_here", "_law_patience", "_law_trunk", "_law_world", "_law_turn", "_law_far"] ["_law_script"] (defScope s_law) := ⟨rfl, rfl, rfl, by decide +kernel, rfl, by decide +kernel, by decide +kernel⟩
theorem bn_law : BindN "law" s_law ["_law_script"] := fun _ _ _ _ _ _ us hl => match us, hl with | [_], _ => rfl
theorem b_law (T : TX K mg) : BodyG P w K mg base "law" s_law ["_law_script", "_law_box", "_law_table_here", "_law_patience", "_law_trunk", "_law_world", "_law_turn", "_law_far"] 16 (spLaw K) := by
  intro cdv A outer s H vs Q E h X hr hg
  obtain ⟨a, ns, rfl, hs, q⟩ := h
  have C_Tree := C_Tree T; have C_Trunk := C_Trunk T; have D__law_digits := D__law_digits (P := P) (w := w) (base := base) T; have D__law_draw := D__law_draw (P := P) (w := w) (base := base) T; have D__law_files := D__law_files (P := P) (w := w) (base := base) T; have D__law_made_trunk := D__law_made_trunk (P := P) (w := w) (base := base) T; have D__law_many := D__law_many (P := P) (w := w) (base := base) T; have D__law_new := D__law_new (P := P) (w := w) (base := base) T; have D__law_one := D__law_one (P := P) (w := w) (base := base) T; have D__law_stranger := D__law_stranger (P := P) (w := w) (base := base) T; have D__law_table := D__law_table (P := P) (w := w) (base := base) T; have D__law_versions := D__law_versions (P := P) (w := w) (base := base) T; have M_Tree___init__ := M_Tree___init__ (P := P) (w := w) (base := base) T; have M_Trunk___init__ := M_Trunk___init__ (P := P) (w := w) (base := base) T; have M_Trunk_begin := M_Trunk_begin (P := P) (w := w) (base := base) T; have M_Trunk_version := M_Trunk_version (P := P) (w := w) (base := base) T; have Mk_Tree := Mk_Tree T; have Mk_Trunk := Mk_Trunk T
  refine ⟨_, (pss_cons (ps_set (i := 1) sc_law.nd rfl (Or.inl rfl) (pe_lst (pa_cons (pe_callA D__law_digits hr pass0 (pa_cons (pv 0) (pa_cons pe_int (pa_cons pe_int pa_nil)))) (pa_cons pe_int pa_nil)))) (pss_cons (ps_set (i := 2) sc_law.nd rfl (Or.inl rfl) (pe_callA D__law_table hr pass0 (pa_cons (pv 1) (pa_cons pe_int pa_nil)))) (pss_cons (ps_set (i := 3) sc_law.nd rfl (Or.inl rfl) (pe_op (op_addU (K := K)) pe_int (pe_callA D__law_draw hr pass0 (pa_cons (pv 1) (pa_cons pe_int pa_nil))))) (pss_cons (ps_set (i := 4) sc_law.nd rfl (Or.inl rfl) (pe_newS M_Trunk___init__ Mk_Trunk C_Trunk hr atE (pa_cons (pe_newS M_Tree___init__ Mk_Tree C_Tree hr atE (pa_cons (pe_callA D__law_files hr pass0 (pa_cons (pv 2) pa_nil)) pa_nil)) (pa_cons (pv 3) (pa_cons (pe_op (op_addU (K := K)) pe_int (pe_callA D__law_draw hr pass0 (pa_cons (pv 1) (pa_cons pe_int pa_nil)))) pa_nil))))) (pss_cons (ps_set (i := 5) sc_law.nd rfl (Or.inl rfl) (pe_callA D__law_new hr pass0 (pa_cons (pv 2) (pa_cons pe_int (pa_cons pe_int pa_nil))))) (pss_cons (ps_for PassesOwn.never rfl (pi_range1 rfl (T.free 27) (pa_cons pe_int pa_nil)) (pg_name (i := 6) sc_law.nd rfl (Or.inl rfl)) (pss_one (ps_if (PW.pt (pw_or (pt_not (pt_tru (K := K) (pe_callA D__law_one hr pass0 (pa_cons (pv 1) (pa_cons (pv 4) (pa_cons (pv 5) pa_nil)))))) (pw_or1 (pt_cmpR (op_neU (K := K) hr.units) (pe_methS0 M_Trunk_version C_Trunk hr at0 (pv 4)) (pe_op op_subU (pe_callB (cr_len (K := K)) rfl (T.free 2) PySem.boot_len (pa_cons (pe_ix (ix_U (K := K)) (pv 5) pe_int (fun _ _ => rfl)) pa_nil)) pe_int) (nomark _))))) (pss_one (ps_ret pe_bl)) pss_nil))) (pss_cons (ps_if (pt_not (pt_tru (K := K) (pe_callG D__law_versions hr hg (pa_cons (pv 1) (pa_cons (pv 4) (pa_cons (pv 5) pa_nil)))))) (pss_one (ps_ret pe_bl)) pss_nil) (pss_cons (ps_set (i := 7) sc_law.nd rfl (Or.inl rfl) (pe_op (op_addU (K := K)) pe_int (pe_callA D__law_draw hr pass0 (pa_cons (pv 1) (pa_cons pe_int pa_nil))))) (pss_cons (ps_if (PW.pt (pw_or (pt_cmpR (op_neU (K := K) hr.units) (pe_callA D__law_made_trunk hr pass0 (pa_cons (pe_op op_subU pe_int (pv 7)) (pa_cons pe_int pa_nil))) pe_str (nomark _)) (pw_or1 (pt_cmpR (op_neU (K := K) hr.units) (pe_callA D__law_made_trunk hr pass0 (pa_cons (pe_op (op_addU (K := K)) pe_int (pv 7)) (pa_cons pe_int pa_nil))) pe_str (nomark _))))) (pss_one (ps_ret pe_bl)) pss_nil) (pss_cons (ps_if (PW.pt (pw_or (pt_cmpR (op_neU (K := K) hr.units) (pe_callA D__law_made_trunk hr pass0 (pa_cons pe_int (pa_cons (pe_op op_subU pe_int (pv 7)) pa_nil))) pe_str (nomark _)) (pw_or (pt_cmpR (op_neU (K := K) hr.units) (pe_callA D__law_made_trunk hr pass0 (pa_cons pe_int (pa_cons (pe_op (op_addU (K := K)) pe_int (pv 7)) pa_nil))) pe_str (nomark _)) (pw_or1 (pt_cmpR (op_neU (K := K) hr.units) (pe_callA D__law_made_trunk hr pass0 (pa_cons pe_int (pa_cons pe_int pa_nil))) pe_str (nomark _)))))) (pss_one (ps_ret pe_bl)) pss_nil) (pss_cons (ps_expr (pe_methS1 M_Trunk_begin C_Trunk hr atE (pv 4) (pa_cons pe_str pa_nil))) (pss_cons (ps_if (PW.pt (pw_or (pt_not (pt_tru (K := K) (pe_callA D__law_stranger hr pass0 (pa_cons (pv 4) (pa_cons (pv 7) pa_nil))))) (pw_or1 (pt_not (pt_tru (K := K) (pe_callA D__law_stranger hr pass0 (pa_cons (pv 4) (pa_cons (pe_op op_subU pe_int (pv 7)) pa_nil)))))))) (pss_one (ps_ret pe_bl)) pss_nil) (pss_cons (ps_if (PW.pt (pw_and (pt_cmpR (op_eqU (K := K) hr.units) (pe_callA D__law_draw hr pass0 (pa_cons (pv 1) (pa_cons pe_int pa_nil))) pe_int (nomark _)) (pw_and1 (pt_not (pt_tru (K := K) (pe_callA D__law_many hr pass0 (pa_cons (pv 1) pa_nil))))))) (pss_one (ps_ret pe_bl)) pss_nil) (pss_one (ps_ret (pe_cmpR (op_eqU (K := K) hr.units) (pe_tup (pa_cons (pe_gInt (T.int 91)) (pa_cons (pe_gInt (T.int 90)) pa_nil))) (pe_tup (pa_cons pe_int (pa_cons pe_int pa_nil))) (nomark _))))))))))))))))), ?_⟩
  walk_at "st"
  refine ⟨a, ns, rfl, hs, fun d ds hd => ?_⟩
  walk_at "st"
  walk_at "nw"
  intro b H1 N1
  have B1 : Bx H1 b d := ⟨0, ds, N1.at_, N1.keep upd_same, by decide⟩
  walk_at "st"
  refine ⟨b, d, 8, rfl, B1, by decide, by decide, fun f fs H2 G F e2 B2 => ?_⟩
  have gl := G.len
  walk_at "st"
  refine ⟨b, d, 9, rfl, B2, by decide, fun m1 H20 m10 m11 e20 B20 => ?_⟩
  have F20 : FilesAt K H20 f fs := F.fk (bx_fk B2 e20)
  walk_at "st"
  refine ⟨f, fs, rfl, F20, G.once, by omega, fun p3 H3 rs e3 hp3 hrs hok => ?_⟩
  have B3 := B20.kp0 e3
  have R3 : RowsAt K H3 p3 (sortF fs) := ⟨rs, .inr hp3, hrs, hok⟩
  have GS : GoodP (sortF fs) := G.sort
  walk_at "st"
  refine c_newTree R3 (good_sane (goodF_iff.mpr GS)) (fun _ t4 H4 e4 ht4 => ?_) (fun g => noE (K := K) GS g)
  have T4 := newG36 G ht4
  have B4 := B3.kp0 e4
  walk_at "st"
  refine ⟨b, d, 9, rfl, B4, by decide, fun m2 H40 m20 m21 e40 B40 => ?_⟩
  have T40 : TreeG K H40 t4 (sortF fs) := T4.fk (bx_fk B4 e40)
  walk_at "st"
  refine c_newTr T40 ⟨by omega, by omega⟩ ⟨by omega, by omega⟩ fun A H5 e5 tr5 fr5 => ?_
  have F5 : TabAt K H5 f (sortF fs) := ⟨fs, ((F20.kp (e3.trans e4)).fk (bx_fk B4 e40)).kp e5, G, rfl⟩
  have B5 := B40.kp0 e5
  walk_at "st"
  refine ⟨f, 9, 9, sortF fs, rfl, F5, fun B H6 e6 wo6 fr6 => ?_⟩
  have J6 : Joint K H6 A B b d (st36 (1 + m1).toNat (1 + m2).toNat [sortF fs] []) (st36 9 9 [sortF fs] []) := by
    obtain ⟨⟨o1, h1⟩, o2, h2⟩ := bx_some B40
    obtain ⟨⟨o3, h3⟩, o4, h4⟩ := bx_some B5
    refine ⟨tr5.kp e6, wo6, fun a ha z => ?_, B5.kp0 e6, fun z => ?_, fun z => ?_, fun z => ?_, fun z => ?_⟩
    · obtain ⟨o, h, _⟩ := tr5.fat a ha
      rw [fr6 a z] at h
      cases h
    · rw [fr5 b z] at h1; cases h1
    · rw [fr6 b z] at h3; cases h3
    · rw [fr5 d z] at h2; cases h2
    · rw [fr6 d z] at h4; cases h4
  have O6 : Ok36 [sortF fs] [] 0 := ⟨rfl, rfl, fun x hx => (by rw [List.mem_singleton.mp hx]; exact GS), by simp⟩
  generalize (1 + m1).toNat = pp at J6
  generalize (1 + m2).toNat = aa at J6
  clear tr5 wo6 fr5 fr6 e6 e5 e40 e4 e3 e20 e2
  walk_at "st"
  refine forR (fun i σ H' => ∃ v6 A' B' T' E' n, σ = [some (.ref a), some (.ref b), some (.ref f), some (.int (1 + m1)), some (.ref A.t), some (.ref B.w), v6, none] ∧ A'.t = A.t ∧ B'.w = B.w ∧ Joint K H' A' B' b d (st36 pp aa T' E') (st36 9 9 T' E') ∧ Ok36 T' E' n ∧ n ≤ i)
    ⟨_, A, B, _, _, 0, rfl, rfl, rfl, J6, O6, Nat.le_refl _⟩ ?_ ?_
  · rintro i σ H7 hi ⟨v6, A7, B7, T7, E7, n7, rfl, et, ew, J7, O7, hn7⟩
    have hi2 : i < 10 := hi
    rw [← et, ← ew]
    walk_at "st"
    refine ⟨A7, B7, b, d, pp, aa, n7, T7, E7, rfl, J7, O7, by omega, fun H8 A8 B8 T8 E8 n8 et8 ew8 hn8 O8 J8 => ?_⟩
    rw [← et8, ← ew8]
    have ht8 := J8.tr.t
    have hw8 := J8.wo.w
    have hl8 : SqL K H8 B8.l0 (B8.fs.map V.ref) := SqL.of J8.wo.l0
    have hfn : B8.fs.length = T8.length := J8.wo.fn
    walk_at "dc"
    refine ⟨A8, _, rfl, J8.tr, ?_⟩
    walk_at "st"
    first | (refine c_ixL (v := .ref B8.l0) (SqL.of hw8) rfl ?_; walk_at "st") | skip
    rw [List.length_map, hfn]
    walk_at "st"
    rw [decide_eq_true (show (((st36 pp aa T8 E8).trees.length : Nat) : Int) - 1 = ((T8.length : Nat) : Int) - 1 from rfl)]
    walk_at "dc"
    exact ⟨_, A8, B8, T8, E8, n8, rfl, rfl, rfl, J8, O8, by omega⟩
  · rintro σ H7 ⟨v6, A7, B7, T7, E7, n7, rfl, et, ew, J7, O7, hn7⟩
    have hn7 : n7 ≤ 10 := hn7
    rw [← et, ← ew]
    walk_at "st"
    refine ⟨A7, B7, b, d, pp, aa, n7, T7, E7, rfl, J7, O7, by omega, fun H8 J8 => ?_⟩
    walk_at "dc"
    refine ⟨b, d, 9, rfl, J8.bx, by decide, fun m H9 m0 m9 e9 B9 => ?_⟩
    have J9 := J8.draw e9 B9
    walk_at "st"
    refine ⟨_, _, rfl, fun H10 e10 => ?_⟩
    rw [made1 m0]
    have J10 := J9.kp e10
    walk_at "st"
    rw [decide_eq_true (rfl : ("patience" : Str) = "patience")]
    walk_at "dc"
    refine ⟨_, _, rfl, fun H11 e11 => ?_⟩
    rw [made2 m0]
    have J11 := J10.kp e11
    walk_at "st"
    rw [decide_eq_true (rfl : ("patience" : Str) = "patience")]
    walk_at "dc"
    refine ⟨_, _, rfl, fun H12 e12 => ?_⟩
    rw [made3 m0 (by decide)]
    have J12 := J11.kp e12
    walk_at "st"
    rw [decide_eq_true (rfl : ("allowance" : Str) = "allowance")]
    walk_at "dc"
    refine ⟨_, _, rfl, fun H13 e13 => ?_⟩
    rw [made4 m0 (by decide)]
    have J13 := J12.kp e13
    walk_at "st"
    rw [decide_eq_true (rfl : ("allowance" : Str) = "allowance")]
    walk_at "dc"
    refine ⟨_, _, rfl, fun H14 e14 => ?_⟩
    rw [made5]
    have J14 := J13.kp e14
    walk_at "st"
    rw [decide_eq_true (rfl : ("" : Str) = "")]
    have ht14 := J14.tr.t
    have nz : isNameS "z" = true := by decide +kernel
    have htl := O7.tl
    walk_at "dc"
    refine ⟨A7, _, "z", rfl, J14.tr, by decide, Nat.zero_le _, by show 1 ≤ T7.length; omega, fun g => (by rw [nz] at g; cases g), fun _ g => (by cases g), fun _ _ H15 A15 st => ?_⟩
    have J15 := J14.stp st
    rw [← st.tt]
    have ok : ∀ y ∈ ((st36 pp aa T7 E7).add ⟨"z", (st36 pp aa T7 E7).trees.length - 1, [], 0, "open"⟩).sess, SessOk ((st36 pp aa T7 E7).add ⟨"z", (st36 pp aa T7 E7).trees.length - 1, [], 0, "open"⟩) y := fun y hy => by
      rw [List.mem_singleton.mp (show y ∈ [_] from hy)]
      exact ⟨by simp, by simp, by show T7.length - 1 < T7.length; omega, by simp⟩
    walk_at "st"
    refine ⟨A15, _, _, rfl, J15.tr, ok, by show 1 ≤ T7.length; omega, fun z => ?_, fun H16 e16 => ?_⟩
    · have := z.2
      have : (1 + m) < ((1 : Nat) : Int) := this
      omega
    have J16 := J15.kp e16
    walk_at "dc"
    refine ⟨A15, _, _, rfl, J16.tr, ok, by show 1 ≤ T7.length; omega, fun z => ?_, fun H17 e17 => ?_⟩
    · have := z.1
      omega
    have J17 := J16.kp e17
    walk_at "dc"
    refine ⟨b, d, 4, rfl, J17.bx, by decide, fun i9 H18 _ _ e18 B18 => ?_⟩
    walk_at "st"
    refine c_ite (fun g => ?_) (fun g => ?_)
    · walk_at "st"
      refine ⟨b, rfl, fun H19 => ?_⟩
      walk_at "dc"
      walk_at "nw"
      intro p11 H21 N11
      walk_at "st"
      walk_at "nw"
      intro p12 H22 N12
      refine c_eqSame (dp_intsT (ns := [200, 9]) (SqT.of (N12.keep N11.at_))) (dp_intsT (ns := [200, 9]) (SqT.of N12.at_)) (by decide +kernel) ?_
      exact q _
    · walk_at "dc"
      walk_at "nw"
      intro p11 H21 N11
      walk_at "st"
      walk_at "nw"
      intro p12 H22 N12
      refine c_eqSame (dp_intsT (ns := [200, 9]) (SqT.of (N12.keep N11.at_))) (dp_intsT (ns := [200, 9]) (SqT.of N12.at_)) (by decide +kernel) ?_
      exact q _
theorem D_law (T : TX K mg) : DefG P w K mg base "law" 17 ["_law_script"] (spLaw K) :=
  defG_of T 61 92 sc_law bn_law (by walk_at "len") (b_law T)
end
end K36



namespace K36
open PySem L2 Sa
theorem atEnd {P : Program} {w : World} {K : PySem.W.Frag} {h : Heap} {mg : Str → Option Value} {f : Addr} (KX : K.In h) (G : h.Ns mainGlobals mg) (hf : mg "law" = some (.ref f)) (c : He.SaysD fa fn K) (cx : exs fx K = true) :
    ∃ fd : FuncData, (∀ (s : Shared) (v : Value), BindsTo s fd ⟨[v], []⟩ [("_law_script", v)]) ∧ ∀ base : Heap, K.In base → base.Ns mainGlobals mg → FnG P w K mg base CX0 17 f fd ["_law_script"] (spLawE K) :=
  lawG_of KX G c hf 61 92 sc_law bn_law (fun vs H Q E z => by obtain ⟨a, ns, rfl, _⟩ := z; rfl) fun base => b_law ⟨h, KX, G, c, cx⟩
end K36
theorem PySem.Challenge.cw_sameanswers_k36_versions_of_a_trunk_holds : PySem.Challenge.rw_sameanswers_k36_versions_of_a_trunk.Holds :=
  K36.fin fun KX G hf c cx => K36.atEnd KX G hf c cx
#print axioms PySem.Challenge.cw_sameanswers_k36_versions_of_a_trunk_holds


